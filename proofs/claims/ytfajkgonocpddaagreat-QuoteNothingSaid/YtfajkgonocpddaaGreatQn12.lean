/- Part 12 of the proof: contracts of the functions that the law reaches -/
import Derived.Test.YtfajkgonocpddaaGreatQn11
set_option linter.unusedVariables false
set_option linter.unusedSimpArgs false
namespace Go.Ab
open Go
def getK : List AV → Nat → (AV → Prop) → Prop
  | [], _, k => k .junk
  | a :: _, 0, k => k a
  | _ :: xs, n + 1, k => getK xs n k
def setN : List AV → Nat → AV → (List AV → Prop) → Prop
  | [], _, _, k => k []
  | _ :: xs, 0, v, k => k (v :: xs)
  | a :: xs, n + 1, v, k => setN xs n v fun xs' => k (a :: xs')
def setK (A : List AV) (d : Option Tmp) (v : AV) (k : List AV → Prop) : Prop := match d with | some i => setN A i v k | none => k A
theorem getK_eq : ∀ (A : List AV) (i : Nat) (k : AV → Prop), getK A i k = k (A.getD i .junk)
  | [], _, k => by simp [getK]
  | a :: xs, 0, k => by simp [getK]
  | a :: xs, n + 1, k => by rw [getK, getK_eq xs n k]; simp
theorem setN_eq : ∀ (A : List AV) (i : Nat) (v : AV) (k : List AV → Prop), setN A i v k = k (A.set i v)
  | [], _, v, k => by simp [setN]
  | a :: xs, 0, v, k => by simp [setN]
  | a :: xs, n + 1, v, k => by rw [setN, setN_eq xs n v]; simp
theorem setK_eq (A : List AV) (d : Option Tmp) (v : AV) (k : List AV → Prop) : setK A d v k = k (putA A d v) := by
  cases d with
  | none => rfl
  | some i => exact setN_eq A i v k
def litK (v : Value) (k : AV → Prop) : Prop :=
  match v with
  | .bool b => k (.bool b)
  | .int kk n => k (.int kk n)
  | .string s => k (.str s)
  | .pointer a => (match a with | none => k .nilp | some _ => k .junk)
  | .slice a l c => (match a with | none => (match l, c with | 0, 0 => k .emp | _, _ => k .junk) | some _ => k .junk)
  | .nilFunc => k .nilf
  | .nilIface => k .nili
  | v => k (avOf v)
theorem litK_eq (v : Value) (k : AV → Prop) : litK v k = k (avOf v) := by
  cases v with
  | pointer a => cases a <;> rfl
  | slice a l c => cases a with
    | none => cases l <;> cases c <;> rfl
    | some a => rfl
  | _ => rfl
def evK (A : List AV) (x : Operand) (k : AV → Prop) : Prop :=
  match x with
  | .tmp t => getK A t k
  | .const v => litK v k
  | .global _ => k .junk
  | .func f => k (.fn (.func f) [] [])
theorem evK_eq (A : List AV) (x : Operand) (k : AV → Prop) : evK A x k = k (ev A x) := by
  cases x with
  | tmp t => exact getK_eq A t k
  | const v => exact litK_eq v k
  | _ => rfl
def evsK (A : List AV) : List Operand → (List AV → Prop) → Prop
  | [], k => k []
  | x :: xs, k => evK A x fun v => evsK A xs fun vs => k (v :: vs)
theorem evsK_eq (A : List AV) : ∀ (xs : List Operand) (k : List AV → Prop), evsK A xs k = k (xs.map (ev A))
  | [], k => rfl
  | x :: xs, k => by simp only [evsK, evK_eq, evsK_eq A xs, List.map_cons]
def evPK (A : List AV) : List (Nat × Operand) → (List (Nat × AV) → Prop) → Prop
  | [], k => k []
  | p :: ps, k => evK A p.2 fun v => evPK A ps fun vs => k ((p.1, v) :: vs)
theorem evPK_eq (A : List AV) : ∀ (ps : List (Nat × Operand)) (k : List (Nat × AV) → Prop), evPK A ps k = k (ps.map fun p => (p.1, ev A p.2))
  | [], k => rfl
  | p :: ps, k => by simp only [evPK, evK_eq, evPK_eq A ps, List.map_cons]
def optK (A : List AV) (x : Option Operand) (k : Option AV → Prop) : Prop := match x with | none => k none | some y => evK A y fun v => k (some v)
theorem optK_eq (A : List AV) (x : Option Operand) (k : Option AV → Prop) : optK A x k = k (x.map (ev A)) := by
  cases x with
  | none => rfl
  | some y => exact evK_eq A y _
def forkB (b : Bool) (x y : Prop) : Prop := match b with | true => x | false => y
theorem forkB_iff (b : Bool) (x y : Prop) : forkB b x y ↔ (b = true → x) ∧ (b = false → y) := by cases b <;> simp [forkB]
theorem fork {b : Bool} {x y : Prop} (h1 : b = true → x) (h2 : b = false → y) : forkB b x y := by cases b; exact h2 rfl; exact h1 rfl
structure xCall (P : Program) (f : FuncId) (args : List AV) (st : St) (k : KK) : Prop where
  out : aCallF P f args st k
def appK : List AV → List AV → (List AV → Prop) → Prop
  | [], b, k => k b
  | v :: a, b, k => appK a b fun l => k (v :: l)
theorem appK_eq : ∀ (a b : List AV) (k : List AV → Prop), appK a b k = k (a ++ b)
  | [], b, k => rfl
  | v :: a, b, k => by rw [appK, appK_eq a b]; rfl
def lenK : List AV → Nat → (Nat → Prop) → Prop
  | [], n, k => k n
  | _ :: l, n, k => lenK l (n + 1) k
theorem lenK_eq : ∀ (l : List AV) (n : Nat) (k : Nat → Prop), lenK l n k = k (n + l.length)
  | [], n, k => by simp [lenK]
  | a :: l, n, k => by rw [lenK, lenK_eq l]; simp [Nat.add_assoc, Nat.add_comm 1]
def overK : List AV → List AV → (List AV → Prop) → Prop
  | cs, [], k => k cs
  | _ :: cs, v :: new, k => overK cs new fun r => k (v :: r)
  | [], _ :: _, k => k []
def spliceK : List AV → Nat → List AV → (List AV → Prop) → Prop
  | cs, 0, new, k => overK cs new k
  | a :: cs, n + 1, new, k => spliceK cs n new fun r => k (a :: r)
  | [], _ + 1, _, k => k []
theorem overK_eq : ∀ (cs new : List AV) (k : List AV → Prop), new.length ≤ cs.length → overK cs new k = k (new ++ cs.drop new.length)
  | cs, [], k, _ => by simp [overK]
  | c :: cs, v :: new, k, h => by rw [overK, overK_eq cs new _ (by simpa using h)]; simp
  | [], v :: new, k, h => by simp at h
theorem spliceK_eq : ∀ (cs : List AV) (n : Nat) (new : List AV) (k : List AV → Prop), n + new.length ≤ cs.length → spliceK cs n new k = k (cs.take n ++ new ++ cs.drop (n + new.length))
  | cs, 0, new, k, h => by rw [spliceK, overK_eq cs new k (by omega)]; simp
  | a :: cs, n + 1, new, k, h => by
    rw [spliceK, spliceK_eq cs n new _ (by simp at h; omega)]
    simp [show n + 1 + new.length = (n + new.length) + 1 from by omega]
  | [], n + 1, new, k, h => by simp at h
def xFill (place : Nat → Option (Nat × Nat)) : List (Nat × AV) → List AV → (List AV → Prop) → Prop
  | [], cells, k => k cells
  | (i, v) :: rest, cells, k => match place i with
    | none => False
    | some (off, size) => match Nat.beq (cellsOf v).length size && Nat.ble (off + size) cells.length && (cellsOf v).all AV.one && Nat.blt 0 size with
      | true => spliceK cells off (cellsOf v) fun cells' => xFill place rest cells' k
      | false => False
theorem xFill_eq {place : Nat → Option (Nat × Nat)} : ∀ (ps : List (Nat × AV)) (cells : List AV) (k : List AV → Prop), xFill place ps cells k → ∃ out, aFill place cells ps = some out ∧ k out
  | [], cells, k, h => ⟨cells, rfl, h⟩
  | (i, v) :: ps, cells, k, h => by
    unfold xFill at h
    unfold aFill
    split at h
    · exact h.elim
    · rename_i off size hp
      rw [hp]
      simp only
      split at h
      · rename_i hb
        simp only [Bool.and_eq_true, Nat.beq_eq, Nat.ble_eq, Nat.blt_eq] at hb
        obtain ⟨⟨⟨h1, h2⟩, h3⟩, h4⟩ := hb
        rw [spliceK_eq _ _ _ _ (by omega)] at h
        rw [if_neg (by simp only [not_or, Decidable.not_not, Bool.not_eq_false]; exact ⟨h1, by omega, h3, by omega⟩)]
        rw [h1] at h
        exact xFill_eq ps _ k h
      · exact h.elim
def xBuild (T : Tab) (t : TypeId) (ps : List (Nat × AV)) (k : AV → Prop) : Prop :=
  match T t with
  | none => False
  | some r => match r.desc with
    | .struct fs => match places T fs.toList with
      | none => False
      | some pl => xFill (fun i => pl[i]?) ps (cellsOf (avOf r.zero)) fun out => k (.agg out)
    | .array n el => match T el with
      | none => False
      | some q => xFill (fun i => some (i * q.size, q.size)) ps (cellsOf (avOf r.zero)) fun out => k (.agg out)
    | _ => False
theorem xBuild_eq {T : Tab} {t : TypeId} {ps : List (Nat × AV)} {k : AV → Prop} (h : xBuild T t ps k) : aBuild T t ps k := by
  unfold xBuild at h
  unfold aBuild
  split at h
  · exact h.elim
  · rename_i r hr
    rw [hr]
    simp only
    split at h
    · rename_i fs hd
      rw [hd]
      simp only
      split at h
      · exact h.elim
      · rename_i pl hp
        rw [hp]
        simp only
        obtain ⟨out, h1, h2⟩ := xFill_eq _ _ _ h
        rw [h1]; exact h2
    · rename_i n el hd
      rw [hd]
      simp only
      split at h
      · exact h.elim
      · rename_i q hq
        rw [hq]
        simp only
        obtain ⟨out, h1, h2⟩ := xFill_eq _ _ _ h
        rw [h1]; exact h2
    · exact h.elim
def splitK : Nat → List AV → (List AV → List AV → Prop) → Prop
  | 0, l, k => k [] l
  | n + 1, v :: l, k => splitK n l fun a b => k (v :: a) b
  | _ + 1, [], k => k [] []
theorem splitK_eq : ∀ (n : Nat) (l : List AV) (k : List AV → List AV → Prop), splitK n l k = k (l.take n) (l.drop n)
  | 0, l, k => by simp [splitK]
  | n + 1, v :: l, k => by rw [splitK, splitK_eq n l]; simp
  | n + 1, [], k => by simp [splitK]
def groupK (agg : Bool) (e : Nat) : Nat → List AV → (List AV → Prop) → Prop
  | 0, _, k => k []
  | n + 1, out, k => match agg with
    | true => splitK e out fun a b => groupK agg e n b fun r => k (.agg a :: r)
    | false => match out with
      | v :: b => groupK agg e n b fun r => k (v :: r)
      | [] => False
theorem groupA_succ (agg : Bool) (e n : Nat) (out : List AV) (he : agg = false → e = 1) : groupA agg e (n + 1) out = (if agg then .agg (out.take e) else out.getD 0 .junk) :: groupA agg e n (out.drop e) := by
  unfold groupA
  rw [List.range_succ_eq_map, List.map_cons, List.map_map]
  congr 1
  · cases agg <;> simp
  · refine List.map_congr_left fun i _ => ?_
    cases agg with
    | true =>
      simp only [Function.comp, if_true]
      rw [List.drop_drop, show (i + 1) * e = e + i * e from by rw [Nat.add_mul]; omega]
    | false =>
      have := he rfl
      subst this
      simp
theorem groupK_eq {agg : Bool} {e : Nat} (he : agg = false → e = 1) : ∀ (n : Nat) (out : List AV) (k : List AV → Prop), groupK agg e n out k → k (groupA agg e n out)
  | 0, out, k, h => h
  | n + 1, out, k, h => by
    unfold groupK at h
    rw [groupA_succ agg e n out he]
    cases agg with
    | true =>
      simp only [splitK_eq] at h
      exact groupK_eq he n _ _ h
    | false =>
      simp only at h
      have := he rfl
      subst this
      split at h
      · rename_i v b; exact groupK_eq he n _ _ h
      · exact h.elim
def xNew (fz : Bool) (ty : TypeId) (v : AV) (st : St) (k : KK) : Prop :=
  match Nat.blt 0 (cellsOf v).length && (cellsOf v).all AV.one with
  | true => (match fz with
    | true => k (.fptr v 0) st
    | false => lenK (cellsOf v) 0 fun n => ∀ b, st b = none → k (.optr n b 0 0) (upd st b ⟨ty, n, 1, fun _ => v⟩))
  | false => False
theorem xNew_eq {fz : Bool} {ty : TypeId} {v : AV} {st : St} {k : KK} (h : xNew fz ty v st k) : aNew ty v st k := by
  unfold xNew at h
  split at h
  · rename_i hb
    simp only [Bool.and_eq_true, Nat.blt_eq] at hb
    cases fz with
    | true => exact ⟨hb.1, hb.2, .inl h⟩
    | false =>
      simp only [lenK_eq, Nat.zero_add] at h
      exact ⟨hb.1, hb.2, .inr h⟩
  · exact h.elim
def xRow (fz : Bool) (T : Tab) (t : TypeId) (len : Nat) (ps : List (Nat × AV)) (st : St) (k : KK) : Prop :=
  match T t with
  | none => False
  | some r => match r.desc with
    | .slice el => match T el with
      | none => False
      | some q => match Nat.blt 0 (len * q.size) && Nat.ble (len * q.size) 16777216 && Nat.beq q.zero.cells.size q.size && (q.agg || Nat.beq q.size 1) with
        | false => False
        | true => xFill (fun i => some (i * q.size, q.size)) ps ((List.range (len * q.size)).map fun i => (cellsOf (avOf q.zero)).getD (i % q.size) .junk) fun out => match out.all AV.one with
        | false => False
        | true => groupK q.agg q.size len out fun els => match fz with
          | false => k (.arr q.size len (fun i => els.getD i .junk)) st
          | true => ∀ b, st b = none → k (.own q.size b 0 len) (upd st b ⟨el, q.size, len, fun i => els.getD i .junk⟩)
    | _ => False
theorem xRow_eq {fz : Bool} {T : Tab} {t : TypeId} {len : Nat} {ps : List (Nat × AV)} {st : St} {k : KK} (h : xRow fz T t len ps st k) : aBuildSlice T t len ps st k := by
  unfold xRow at h
  unfold aBuildSlice
  split at h
  · exact h.elim
  · rename_i r hr
    rw [hr]
    simp only
    split at h
    · rename_i el hd
      rw [hd]
      simp only
      split at h
      · exact h.elim
      · rename_i q hq
        rw [hq]
        split at h
        · exact h.elim
        rename_i hb
        simp only [Bool.and_eq_true, Nat.blt_eq, Nat.ble_eq, Nat.beq_eq, Bool.or_eq_true] at hb
        obtain ⟨⟨⟨h1, h2⟩, h3⟩, h4'⟩ := hb
        have h4 : q.agg = false → q.size = 1 := fun e => h4'.resolve_left (by simp [e])
        refine ⟨h1, h2, h3, h4, ?_⟩
        obtain ⟨out, ho, h⟩ := xFill_eq _ _ _ h
        rw [ho]
        split at h
        · exact h.elim
        rename_i hone
        have h := groupK_eq h4 _ _ _ h
        refine ⟨hone, ?_⟩
        cases fz with
        | false => exact .inl h
        | true => exact .inr h
    · exact h.elim
def xPick (r : TRow) (cs : List AV) (o : Nat) (k : AV → Prop) : Prop :=
  match r.agg with
  | true => (match Nat.ble (o + r.size) cs.length with
    | true => splitK o cs fun _ b => splitK r.size b fun c _ => k (.agg c)
    | false => False)
  | false => getK cs o fun y => match y with | .junk => False | y => k y
theorem xPick_eq {r : TRow} {cs : List AV} {o : Nat} {k : AV → Prop} (h : xPick r cs o k) : pick r cs o k := by
  unfold xPick at h
  unfold pick
  split at h
  · rename_i e
    rw [e]
    split at h
    · rename_i hb
      simp only [splitK_eq] at h
      exact ⟨by simpa using hb, h⟩
    · exact h.elim
  · rename_i e
    rw [e]
    rw [getK_eq] at h
    simp only
    rw [List.getD_eq_getElem?_getD] at h
    cases hy : cs[o]? with
    | none => rw [hy] at h; exact h.elim
    | some y => rw [hy] at h; simp only [Option.getD_some] at h; split at h; exact h.elim; exact h
structure xLdO (T : Tab) (t : TypeId) (e b i o : Nat) (st : St) (k : KK) : Prop where
  out : aLoad T t (.optr e b i o) st k
def xLoad (T : Tab) (t : TypeId) (v : AV) (st : St) (k : KK) : Prop :=
  match v with
  | .fptr v o => (match T t with | some r => xPick r (cellsOf v) o (fun y => k y st) | none => False)
  | .optr e b i o => xLdO T t e b i o st k
  | _ => False
theorem xLoad_eq {T : Tab} {t : TypeId} {v : AV} {st : St} {k : KK} (h : xLoad T t v st k) : aLoad T t v st k := by
  unfold xLoad at h
  split at h
  · unfold aLoad
    split at h
    · rename_i hr; rw [hr]; exact xPick_eq h
    · exact h.elim
  · exact h.out
  · exact h.elim
structure xStO (T : Tab) (t : TypeId) (e b i o : Nat) (v : AV) (st : St) (k : KK) : Prop where
  out : (match T t with | some r => 0 < r.size | none => False) ∧ aStore T t (.optr e b i o) v st k
def xStore (T : Tab) (t : TypeId) (p v : AV) (st : St) (k : KK) : Prop := match p with | .optr e b i o => xStO T t e b i o v st k | _ => False
structure xApp (T : Tab) (t : TypeId) (s x : AV) (st : St) (k : KK) : Prop where
  out : aAppend T t s x st k
structure xMk (T : Tab) (t : TypeId) (l c : AV) (st : St) (k : KK) : Prop where
  out : aMake T t l c st k
def xBuiltin (T : Tab) (b : Builtin) (args : List AV) (ts : List TypeId) (st : St) (k : KK) : Prop :=
  match b with
  | .append => match args, ts with
    | [s, x], [t, u] => (match Nat.beq t u with | true => xApp T t s x st k | false => False)
    | _, _ => False
  | b => aBuiltin T b args ts st k
theorem xBuiltin_eq {T : Tab} {b : Builtin} {args : List AV} {ts : List TypeId} {st : St} {k : KK} (h : xBuiltin T b args ts st k) : aBuiltin T b args ts st k := by
  unfold xBuiltin at h
  split at h
  · unfold aBuiltin
    split at h
    · split at h
      · rename_i e; exact ⟨Nat.eq_of_beq_eq_true e, h.out⟩
      · exact h.elim
    · exact h.elim
  · exact h
def xInvoke (P : Program) (T : Tab) (M : MTab) (r : AV) (name : String) (args : List AV) (st : St) (k : KK) : Prop :=
  match r with
  | .iface t v => match M t name with
    | some (f, none) => xCall P f (v :: args) st k
    | some (f, some el) => xLoad T el v st (fun u st' => xCall P f (u :: args) st' k)
    | none => False
  | _ => False
theorem xInvoke_eq {P : Program} {T : Tab} {M : MTab} {r : AV} {name : String} {args : List AV} {st : St} {k : KK} (h : xInvoke P T M r name args st k) : aInvoke P T M r name args st k := by
  unfold xInvoke at h
  unfold aInvoke
  split at h
  · rename_i t v
    simp only
    split at h
    · rename_i f hf; rw [hf]; exact h.out
    · rename_i f el hf; rw [hf]; exact aLoad_mono (k := fun u st' => xCall P f (u :: args) st' k) (fun u hu => hu.out) (xLoad_eq h)
    · exact h.elim
  · exact h.elim
def xBin (T : Tab) (op : BinOp) (t : TypeId) (x y : AV) (k : AV → Prop) : Prop :=
  match x, y, op with
  | .int kk a, .int _ b, .shl => forkB (decide (b < 0)) False (k (.int kk (kk.wrap (a * 2 ^ (min b.toNat kk.bits)))))
  | .int kk a, .int _ b, .shr => forkB (decide (b < 0)) False (k (.int kk (a.fdiv (2 ^ (min b.toNat kk.bits)))))
  | .int kk a, .int k' b, .quo => match decide (kk = k') with | true => forkB (decide (b = 0)) False (k (.int kk (kk.wrap (a.tdiv b)))) | false => False
  | .int kk a, .int k' b, .rem => match decide (kk = k') with | true => forkB (decide (b = 0)) False (k (.int kk (a.tmod b))) | false => False
  | x, y, op => match aBin T op t x y with | some z => k z | none => False
theorem xBin_eq {T : Tab} {op : BinOp} {t : TypeId} {x y : AV} {k : AV → Prop} (h : xBin T op t x y k) : match aBin T op t x y with | some z => k z | none => False := by
  unfold xBin at h
  split at h
  · obtain ⟨h1, h2⟩ := (forkB_iff _ _ _).1 h
    rename_i kk a k' b
    by_cases hb : b < 0
    · exact (h1 (decide_eq_true hb)).elim
    · simp only [aBin, aShift, if_neg hb]; exact h2 (decide_eq_false hb)
  · obtain ⟨h1, h2⟩ := (forkB_iff _ _ _).1 h
    rename_i kk a k' b
    by_cases hb : b < 0
    · exact (h1 (decide_eq_true hb)).elim
    · simp only [aBin, aShift, if_neg hb]; exact h2 (decide_eq_false hb)
  · rename_i kk a k' b
    by_cases hk : kk = k'
    · rw [decide_eq_true hk] at h
      obtain ⟨h1, h2⟩ := (forkB_iff _ _ _).1 h
      by_cases hb : b = 0
      · exact (h1 (decide_eq_true hb)).elim
      · simp only [aBin, aInt, if_pos hk, if_neg hb]; exact h2 (decide_eq_false hb)
    · rw [decide_eq_false hk] at h; exact h.elim
  · rename_i kk a k' b
    by_cases hk : kk = k'
    · rw [decide_eq_true hk] at h
      obtain ⟨h1, h2⟩ := (forkB_iff _ _ _).1 h
      by_cases hb : b = 0
      · exact (h1 (decide_eq_true hb)).elim
      · simp only [aBin, aInt, if_pos hk, if_neg hb]; exact h2 (decide_eq_false hb)
    · rw [decide_eq_false hk] at h; exact h.elim
  · exact h
def xBinO (T : Tab) (op : BinOp) (t : TypeId) (y : Operand) (vx vy : AV) (k : AV → Prop) : Prop :=
  match aNil T op t y vx with
  | some z => k z
  | none => xBin T op t vx vy k
theorem xBinO_eq {T : Tab} {op : BinOp} {t : TypeId} {y : Operand} {vx vy : AV} {k : AV → Prop} (h : xBinO T op t y vx vy k) : match aBinO T op t y vx vy with | some z => k z | none => False := by
  unfold xBinO at h
  unfold aBinO
  split at h
  · rename_i z hz; rw [hz]; exact h
  · rename_i hz; rw [hz]; exact xBin_eq h
structure xIdx (s : ByteArray) (j : Int) (k : AV → Prop) : Prop where
  out : ∃ h : 0 ≤ j ∧ j.toNat < s.size, k (.int .u8 ((s[j.toNat]'h.2).toNat : Int))
def xIndex (T : Tab) (t : TypeId) (v i : AV) (k : AV → Prop) : Prop :=
  match T t with
  | none => False
  | some r => match r.desc, v, i with
    | .string, .str s, .int _ j => xIdx s j k
    | _, _, _ => False
theorem xIndex_eq {T : Tab} {t : TypeId} {v i : AV} {k : AV → Prop} (h : xIndex T t v i k) : aIndex T t v i k := by
  unfold xIndex at h
  unfold aIndex
  split at h
  · exact h.elim
  rename_i r hr
  rw [hr]
  simp only
  split at h
  · rename_i s kk j hd
    rw [hd]
    exact h.out
  · exact h.elim
def natK (n : Nat) (k : Nat → Prop) : Prop :=
  match n with
  | 0 => k 0 | 1 => k 1 | 2 => k 2 | 3 => k 3 | 4 => k 4 | 5 => k 5 | 6 => k 6 | 7 => k 7 | 8 => k 8 | 9 => k 9 | 10 => k 10 | 11 => k 11 | 12 => k 12 | 13 => k 13 | 14 => k 14 | 15 => k 15 | 16 => k 16 | 17 => k 17 | 18 => k 18 | 19 => k 19 | 20 => k 20 | n => k n
theorem natK_eq (n : Nat) (k : Nat → Prop) : natK n k = k n := by unfold natK; split <;> rfl
def xFieldAddr (T : Tab) (s : TypeId) (p : AV) (f : Nat) (k : AV → Prop) : Prop :=
  match T s with
  | none => False
  | some r => match r.desc with
    | .struct fs => match fs[f]? with
      | none => False
      | some fl => match T fl.type with
        | none => False
        | some q => match Nat.blt 0 q.size with
          | true => (match p with
            | .fptr v o => natK (o + fl.offset) fun o' => k (.fptr v o')
            | .optr e b i o => natK (o + fl.offset) fun o' => k (.optr e b i o')
            | _ => False)
          | false => False
    | _ => False
theorem xFieldAddr_eq {T : Tab} {s : TypeId} {p : AV} {f : Nat} {k : AV → Prop} (h : xFieldAddr T s p f k) : aFieldAddr T s p f k := by
  unfold xFieldAddr at h
  unfold aFieldAddr
  split at h
  · exact h.elim
  rename_i r hr
  rw [hr]
  simp only
  split at h
  case h_2 => exact h.elim
  rename_i fs hd
  rw [hd]
  simp only
  split at h
  · exact h.elim
  rename_i fl hf
  rw [hf]
  simp only
  split at h
  · exact h.elim
  rename_i q hq
  rw [hq]
  simp only
  split at h
  · rename_i hb
    refine ⟨by simpa using hb, ?_⟩
    split at h
    · rw [natK_eq] at h; exact h
    · rw [natK_eq] at h; exact h
    · exact h.elim
  · exact h.elim
def xField (T : Tab) (s : TypeId) (v : AV) (f : Nat) (k : AV → Prop) : Prop :=
  match T s with
  | none => False
  | some r => match r.desc with
    | .struct fs => match fs[f]? with
      | none => False
      | some fl => match T fl.type with
        | none => False
        | some q => match v with
          | .agg cs => xPick q cs fl.offset k
          | _ => False
    | _ => False
theorem xField_eq {T : Tab} {s : TypeId} {p : AV} {f : Nat} {k : AV → Prop} (h : xField T s p f k) : aField T s p f k := by
  unfold xField at h
  unfold aField
  split at h
  · exact h.elim
  rename_i r hr
  rw [hr]
  simp only
  split at h
  case h_2 => exact h.elim
  rename_i fs hd
  rw [hd]
  simp only
  split at h
  · exact h.elim
  rename_i fl hf
  rw [hf]
  simp only
  split at h
  · exact h.elim
  rename_i q hq
  rw [hq]
  simp only
  split at h
  · exact xPick_eq h
  · exact h.elim
def xOp (P : Program) (T : Tab) (M : MTab) (fz : Bool) (op : Op) (A : List AV) (st : St) (k : KK) : Prop :=
  match op with
  | .move x => evK A x fun v => k v st
  | .assign x => evK A x fun v => k v st
  | .pick c x y => evK A c fun v => match v with | .bool b => forkB b (evK A x fun u => k u st) (evK A y fun u => k u st) | _ => False
  | .binOp op t x y _ => evK A x fun v => evK A y fun u => xBinO T op t y v u (fun z => k z st)
  | .unOp op _ x => evK A x fun v => match aUn op v with | some z => k z st | none => False
  | .load t x => evK A x fun v => xLoad T t v st k
  | .store t x y => evK A x fun v => evK A y fun u => xStore T t v u st k
  | .alloc t => match T t with | some r => xNew fz t (avOf r.zero) st k | none => False
  | .box t x => evK A x fun v => xNew fz t v st k
  | .build t ps => evPK A ps.toList fun vs => xBuild T t vs (fun v => k v st)
  | .buildSlice t n ps => match n with
    | 0 => evPK A ps.toList fun vs => aRow0 T t vs st k
    | m + 1 => evPK A ps.toList fun vs => xRow fz T t (m + 1) vs st k
  | .nilCheck x => evK A x fun v => match aNilCheck v with | true => k v st | false => False
  | .convert s d x => evK A x fun v => match aConvert T s d v with | some z => k z st | none => False
  | .makeInterface t x => evK A x fun v => match ifaceT T t with | true => k (.iface t v) st | false => False
  | .makeFunc fn fs cs => evsK A fs.toList fun us => evsK A cs.toList fun vs => k (.fn fn us vs) st
  | .makeSlice t l c => evK A l fun v => evK A c fun u => xMk T t v u st k
  | .slice t x lo hi mx => evK A x fun v => optK A lo fun l => optK A hi fun h => optK A mx fun m => aSlice T t v l h m (fun v => k v st)
  | .fieldAddr s x f => evK A x fun v => xFieldAddr T s v f (fun v => k v st)
  | .field s x f => evK A x fun v => xField T s v f (fun v => k v st)
  | .indexAddr t x i => evK A x fun v => evK A i fun u => aIndexAddr T t v u (fun v => k v st)
  | .index t x i => evK A x fun v => evK A i fun u => xIndex T t v u (fun v => k v st)
  | .typeAssert x _ t ok => evK A x fun v => match aAssert T v t ok with | some z => k z st | none => False
  | .extract x i => evK A x fun v => aExtract v i (fun v => k v st)
  | .call c => evsK A c.args.toList fun args => match c.callee with
    | .builtin b => xBuiltin T b args c.argTypes.toList st k
    | .invoke r name => evK A r fun v => xInvoke P T M v name args st k
    | .value f => evK A f fun v => match v with
      | .fn g fs cs => (match g with | .func n => appK fs args fun l => appK l cs fun l => xCall P n l st k | _ => False)
      | _ => False
  | _ => False
theorem xOp_eq {P : Program} {T : Tab} {M : MTab} {fz : Bool} {o : Oper} {A : List AV} {st : St} {k : KK} (h : xOp P T M fz o.op A st k) : aOp P T M o A st k := by
  obtain ⟨dst, op, type, pos, after, guard⟩ := o
  unfold aOp
  cases op <;> simp only [xOp, evK_eq, evsK_eq, evPK_eq, optK_eq, appK_eq] at h ⊢ <;> try exact h
  case alloc t =>
    split at h
    · rename_i r hr; rw [hr]; exact xNew_eq h
    · exact h.elim
  case box t x => exact xNew_eq h
  case fieldAddr t x f => exact xFieldAddr_eq h
  case field t x f => exact xField_eq h
  case binOp op t x y _ => exact xBinO_eq h
  case index t x f => exact xIndex_eq h
  case load t x => exact xLoad_eq h
  case store t x y =>
    unfold xStore at h
    split at h
    · rename_i hv; rw [hv]; exact h.out
    · exact h.elim
  case makeSlice t l c => exact h.out
  case build t ps => exact xBuild_eq h
  case buildSlice t n ps =>
    cases n with
    | zero => simp only [evPK_eq] at h; exact h
    | succ m => simp only [evPK_eq] at h; exact xRow_eq h
  case pick c x y =>
    split at h
    · rename_i b hb
      simp only [hb]
      exact (forkB_iff _ _ _).1 h
    · exact h.elim
  case nilCheck x =>
    split at h
    · rename_i hb; exact ⟨hb, h⟩
    · exact h.elim
  case makeInterface t x =>
    split at h
    · rename_i hb; exact ⟨hb, h⟩
    · exact h.elim
  case call c =>
    obtain ⟨callee, args, ts⟩ := c
    cases callee with
    | builtin b => exact xBuiltin_eq h
    | invoke r name => simp only [evK_eq] at h; exact xInvoke_eq h
    | value f =>
      simp only [evK_eq, appK_eq] at h
      simp only [aTarget]
      split at h
      · rename_i g fs cs hf
        rw [hf]
        simp only
        split at h
        · exact h.out
        · exact h.elim
      · exact h.elim
def xWant (ops : List Oper) (o : Oper) (A : List AV) (x y : Prop) : Prop :=
  match o.guard with
  | none => x
  | some (g, want) => match ops[g]? with
    | none => y
    | some p => match p.dst with
      | none => y
      | some d => getK A d fun v => match v with
        | .bool b => (match want with | true => forkB b x y | false => forkB b y x)
        | .tuple _ => y
        | _ => False
theorem xWant_eq {ops : List Oper} {o : Oper} {A : List AV} {x y : Prop} (h : xWant ops o A x y) : ∃ b, aWant ops o A = some b ∧ (b = true → x) ∧ (b = false → y) := by
  unfold xWant at h
  unfold aWant
  split at h
  · rename_i hg; exact ⟨true, by simp [hg], fun _ => h, fun e => by cases e⟩
  · rename_i g want hg
    simp only [hg]
    split at h
    · rename_i hp; exact ⟨false, by simp [hp], (fun e => by cases e), fun _ => h⟩
    · rename_i p hp
      simp only [hp]
      split at h
      · rename_i hd; exact ⟨false, by simp [hd], (fun e => by cases e), fun _ => h⟩
      · rename_i d hd
        simp only [hd]
        rw [getK_eq] at h
        rw [List.getD_eq_getElem?_getD] at h
        cases hA : A[d]? with
        | none => exact ⟨false, by simp, (fun e => by cases e), fun _ => by rw [hA] at h; exact h.elim⟩
        | some v =>
          rw [hA] at h
          simp only [Option.getD_some] at h
          split at h
          · rename_i b
            cases want with
            | true => exact ⟨b, by simp, (forkB_iff _ _ _).1 h⟩
            | false => exact ⟨!b, by simp, fun e => ((forkB_iff _ _ _).1 h).2 (by simpa using e), fun e => ((forkB_iff _ _ _).1 h).1 (by simpa using e)⟩
          · exact ⟨false, rfl, (fun e => by cases e), fun _ => h⟩
          · exact h.elim
def inF (frz : List Nat) (d : Option Tmp) : Bool := match d with | some p => frz.contains p | none => false
def pairOf (frz : List Nat) (o1 o2 : Oper) : Option (Tmp × TypeId × TypeId × Operand) :=
  match o1.guard, o2.guard with
  | none, none => match o1.op, o1.dst, o2.op with
    | .alloc t, some p, .store u (.tmp q) y => (match Nat.beq p q && frz.contains p with | true => some (p, t, u, y) | false => none)
    | _, _, _ => none
  | _, _ => none
theorem fptr_congr {rd : Addr → Option Value} {sz : Nat → Nat} {v v' : AV} {r : Nat} {c : Value} (he : cellsOf v = cellsOf v') (h : Rep rd sz (.fptr v r) c) : Rep rd sz (.fptr v' r) c := by
  cases h with
  | fptr v r a g hr hg => exact .fptr v' r a g (fun j hj => hr j (by rw [he]; exact hj)) (fun j y hy => hg j y (by rw [he]; exact hy))
theorem freezeA {A : List AV} {st : St} {p b : Nat} {d : Option Tmp} {x y : Blk} {v : AV} {e : Nat} (hb : st b = none) (hn : 0 < y.n) (hv : cellsOf (y.f 0) = cellsOf v) (hp : p < A.length) (hd : d ≠ some p) :
    ShiftA (putA (putA A (some p) (.optr e b 0 0)) d (.tuple [])) (upd (upd st b x) b y) (putA (putA A (some p) (.fptr v 0)) d (.tuple [])) st := by
  intro w a hA hS
  have hst : upd (upd st b x) b y b = some y := by simp [upd]
  have hne : ∀ c, c ≠ b → upd (upd st b x) b y c = st c := fun c hc => by simp [upd, hc]
  have he : Evo (upd (upd st b x) b y) w st w := ⟨rfl, rfl, rfl, Nat.le_refl _, fun c _ hs => ⟨rfl, by
    by_cases hc : c = b
    · subst hc; exact hb
    · rw [hne c hc] at hs; exact hs⟩, fun _ => Nat.le_refl _⟩
  obtain ⟨cs, hok⟩ := hS b y hst
  refine ⟨⟨by have := hA.len; simp [putA] at this ⊢; cases d <;> simp_all, fun i u hu => ?_, hA.defers⟩, fun c z hz => ?_, he⟩
  · by_cases hi : i = p
    · subst hi
      have hpt : (putA (putA A (some i) (.optr e b 0 0)) d (.tuple []))[i]? = some (.optr e b 0 0) := by
        cases d with
        | none => simp [putA, hp]
        | some q => simp only [putA]; rw [List.getElem?_set_ne (fun h => hd (by rw [h]))]; simp [hp]
      have hpt' : (putA (putA A (some i) (.fptr v 0)) d (.tuple []))[i]? = some (.fptr v 0) := by
        cases d with
        | none => simp [putA, hp]
        | some q => simp only [putA]; rw [List.getElem?_set_ne (fun h => hd (by rw [h]))]; simp [hp]
      rw [hpt'] at hu
      cases hu
      obtain ⟨c, hc1, hc2⟩ := hA.at_ i _ hpt
      refine ⟨c, hc1, ?_⟩
      cases hc2
      have := fptr_congr hv (fptr_of_blk (hok.evo he rfl) hb hn)
      simpa using this
    · have hsame : (putA (putA A (some p) (.optr e b 0 0)) d (.tuple []))[i]? = (putA (putA A (some p) (.fptr v 0)) d (.tuple []))[i]? := by
        cases d with
        | none => simp only [putA]; rw [List.getElem?_set_ne (fun h => hi h.symm), List.getElem?_set_ne (fun h => hi h.symm)]
        | some q =>
          simp only [putA, List.getElem?_set, List.length_set]
          rw [if_neg (show ¬ p = i from fun h => hi h.symm), if_neg (show ¬ p = i from fun h => hi h.symm)]
      rw [← hsame] at hu
      obtain ⟨c, hc1, hc2⟩ := hA.at_ i u hu
      exact ⟨c, hc1, he.rep hc2⟩
  · have hc : c ≠ b := fun h => by rw [h, hb] at hz; cases hz
    obtain ⟨ds, hd'⟩ := hS c z (by rw [hne c hc]; exact hz)
    exact ⟨ds, hd'.evo he rfl⟩
def notTmp (d : Option Tmp) (p : Tmp) : Bool := match d with | some q => !Nat.beq q p | none => true
def notOp (y : Operand) (p : Tmp) : Bool := match y with | .tmp q => !Nat.beq q p | _ => true
theorem notTmp_ne {d : Option Tmp} {p : Tmp} (h : notTmp d p = true) : d ≠ some p := fun e => by subst e; simp [notTmp] at h
theorem notOp_ne {y : Operand} {p : Tmp} (h : notOp y p = true) : y ≠ .tmp p := fun e => by subst e; simp [notOp] at h
def xPair (T : Tab) (p : Tmp) (t u : TypeId) (y : Operand) (d : Option Tmp) (A : List AV) (st : St) (k : KA) : Prop :=
  match T t, T u with
  | some r, some q => evK A y fun v => match Nat.blt p A.length && notTmp d p && Nat.blt 0 q.size && Nat.beq (cellsOf (avOf r.zero)).length q.size && (cellsOf (avOf r.zero)).all AV.one && Nat.beq (cellsOf v).length q.size && (cellsOf v).all AV.one && notOp y p with
      | true => setN A p (.fptr v 0) fun A' => setK A' d (.tuple []) fun A'' => k A'' st
      | false => False
  | _, _ => False
theorem setCells_all {v : AV} {cs : List AV} (h : cs.length = (cellsOf v).length) (h1 : cs.all AV.one = true) (h2 : 0 < cs.length) : cellsOf (setCells v 0 cs) = cs := by
  rw [setCells_cells (by omega) h1 h2]
  simp [h]
theorem xPair_alloc {P : Program} {T : Tab} {M : MTab} {frz : List Nat} {o1 o2 : Oper} {p : Tmp} {t u : TypeId} {y : Operand} (hp : pairOf frz o1 o2 = some (p, t, u, y)) {A : List AV} {st : St} {k : KA} (h : xPair T p t u y o2.dst A st k) :
    o1.guard = none ∧ o2.guard = none ∧ aOp P T M o1 A st fun v st' => aOp P T M o2 (putA A o1.dst v) st' fun v' st'' => Seen k (putA (putA A o1.dst v) o2.dst v') st'' := by
  unfold pairOf at hp
  split at hp
  case h_2 => cases hp
  rename_i hg1 hg2
  split at hp
  case h_2 => cases hp
  rename_i t' p' u' q' y' ho1 hd1 ho2
  split at hp
  case h_2 => cases hp
  rename_i hb
  cases hp
  simp only [Bool.and_eq_true] at hb
  obtain rfl := Nat.eq_of_beq_eq_true hb.1
  refine ⟨hg1, hg2, ?_⟩
  unfold xPair at h
  split at h
  case h_2 => exact h.elim
  rename_i r q hr hq
  rw [evK_eq] at h
  split at h
  case h_2 => exact h.elim
  rename_i hb
  simp only [Bool.and_eq_true, Nat.blt_eq, Nat.beq_eq] at hb
  obtain ⟨⟨⟨⟨⟨⟨⟨hlt, hd⟩, hq0⟩, hz1⟩, hz2⟩, hv1⟩, hv2⟩, hy⟩ := hb
  have hd := notTmp_ne hd
  have hy := notOp_ne hy
  rw [setN_eq, setK_eq] at h
  have hk := h
  unfold aOp
  rw [ho1, ho2, hd1]
  simp only [hr, hq]
  refine ⟨by omega, hz2, .inr fun b hb => ⟨hq0, ?_⟩⟩
  have hevp : ev (putA A (some p) (.optr (cellsOf (avOf r.zero)).length b 0 0)) (.tmp p) = .optr (cellsOf (avOf r.zero)).length b 0 0 := by
    simp [ev, putA, hlt]
  have hevy : ev (putA A (some p) (.optr (cellsOf (avOf r.zero)).length b 0 0)) y = ev A y := ev_put fun t ht hyt => by
    cases ht; exact hy hyt
  unfold aStore
  simp only [hq, hevp, hevy]
  have hst : upd st b ⟨t, (cellsOf (avOf r.zero)).length, 1, fun _ => avOf r.zero⟩ b = some ⟨t, (cellsOf (avOf r.zero)).length, 1, fun _ => avOf r.zero⟩ := by simp [upd]
  rw [hst]
  refine ⟨rfl, Nat.one_pos, hv1, hv2, by simp only; omega, _, _, freezeA hb Nat.one_pos ?_ hlt hd, hk⟩
  simp only [fset, if_true]
  exact setCells_all (by omega) hv2 (by omega)
def tripleOf (frz : List Nat) (o om o2 : Oper) : Option (Tmp × Operand × Tmp × TypeId × TypeId × Operand) :=
  match om.guard, om.op, om.dst, pairOf frz o o2 with
  | none, .assign x, some m, some (p, t, u, y) => (match !Nat.beq m p && notOp x p with | true => some (m, x, p, t, u, y) | false => none)
  | _, _, _, _ => none
def xTriple (T : Tab) (m : Tmp) (x : Operand) (p : Tmp) (t u : TypeId) (y : Operand) (d : Option Tmp) (A : List AV) (st : St) (k : KA) : Prop :=
  evK A x fun v => setN A m v fun A1 => xPair T p t u y d A1 st k
theorem aOp_alloc_any {P : Program} {T : Tab} {M : MTab} {o : Oper} {t : TypeId} (ho : o.op = .alloc t) {A B : List AV} {st : St} {k : KK} (h : aOp P T M o A st k) : aOp P T M o B st k := by
  unfold aOp at *
  rw [ho] at h ⊢
  exact h
theorem xTriple_alloc {P : Program} {T : Tab} {M : MTab} {frz : List Nat} {o1 om o2 : Oper} {m p : Tmp} {x : Operand} {t u : TypeId} {y : Operand} (hp : tripleOf frz o1 om o2 = some (m, x, p, t, u, y)) {A : List AV} {st : St} {k : KA} (h : xTriple T m x p t u y o2.dst A st k) :
    o1.guard = none ∧ om.guard = none ∧ o2.guard = none ∧ aOp P T M o1 A st fun v st' => aOp P T M om (putA A o1.dst v) st' fun v1 st1 => aOp P T M o2 (putA (putA A o1.dst v) om.dst v1) st1 fun v' st'' => Seen k (putA (putA (putA A o1.dst v) om.dst v1) o2.dst v') st'' := by
  unfold tripleOf at hp
  split at hp
  case h_2 => cases hp
  rename_i x' m' p' t' u' y' hg hop hdst hpr
  split at hp
  case h_2 => cases hp
  rename_i hb
  cases hp
  simp only [Bool.and_eq_true, Bool.not_eq_true'] at hb
  have hmp : m ≠ p := fun e => by subst e; simp at hb
  have hxp : x ≠ .tmp p := notOp_ne hb.2
  unfold xTriple at h
  rw [evK_eq, setN_eq] at h
  obtain ⟨g1, g2, h1⟩ := xPair_alloc (P := P) (M := M) hpr h
  have hal : ∃ t0, o1.op = .alloc t0 ∧ o1.dst = some p := by
    unfold pairOf at hpr
    split at hpr
    case h_2 => cases hpr
    split at hpr
    case h_2 => cases hpr
    rename_i t0 p0 u0 q0 y0 ho1 hd1 ho2
    split at hpr
    case h_2 => cases hpr
    cases hpr
    exact ⟨_, ho1, hd1⟩
  obtain ⟨t0, ho1, hd1⟩ := hal
  refine ⟨g1, hg, g2, aOp_mono (fun v st' h2 => ?_) (aOp_alloc_any (B := A) ho1 h1)⟩
  have e1 : ev (putA A (some p) v) x = ev A x := ev_put fun t ht hx => by cases ht; exact hxp hx
  have e2 : putA (putA A (some p) v) (some m) (ev A x) = putA (A.set m (ev A x)) (some p) v := by
    have := putA_comm A (x := some p) (y := some m) v (ev A x) (fun d hd e => by cases hd; cases e; exact hmp rfl)
    exact this
  rw [hd1] at h2 ⊢
  rw [hdst]
  unfold aOp
  rw [hop]
  simp only [e1, e2]
  exact h2
def xOps (P : Program) (T : Tab) (M : MTab) (frz : List Nat) (ops : List Oper) : List Oper → List AV → St → KA → Prop
  | [], A, st, k => k A st
  | o :: rest, A, st, k => match (match rest with | [o2] => pairOf frz o o2 | _ => none) with
    | some (p, t, u, y) => (match rest with | [o2] => xPair T p t u y o2.dst A st k | _ => False)
    | none => match (match rest with | [om, o2] => tripleOf frz o om o2 | _ => none) with
    | some (m, x, p, t, u, y) => (match rest with | [_, o2] => xTriple T m x p t u y o2.dst A st k | _ => False)
    | none => xWant ops o A
      (xOp P T M (inF frz o.dst) o.op A st fun v st' => setK A o.dst v fun A' => xOps P T M frz ops rest A' st' k)
      (setK A o.dst (.tuple []) fun A' => xOps P T M frz ops rest A' st k)
theorem aOps_none {P : Program} {T : Tab} {M : MTab} {ops : List Oper} {o : Oper} {rest : List Oper} {A : List AV} {st : St} {k : KA} (hg : o.guard = none) (h : aOp P T M o A st fun v st' => aOps P T M ops rest (putA A o.dst v) st' k) : aOps P T M ops (o :: rest) A st k := by
  unfold aOps aWant
  rw [hg]
  exact ⟨fun _ => h, fun e => by cases e⟩
theorem xOps_eq {P : Program} {T : Tab} {M : MTab} {frz : List Nat} {ops : List Oper} : ∀ (l : List Oper) (A : List AV) (st : St) (k : KA), xOps P T M frz ops l A st k → aOps P T M ops l A st (Seen k)
  | [], A, st, k, h => ⟨A, st, ShiftA.refl A st, h⟩
  | o :: rest, A, st, k, h => by
    unfold xOps at h
    split at h
    · rename_i p t u y hp
      split at hp
      · rename_i o2
        obtain ⟨g1, g2, h1⟩ := xPair_alloc (P := P) (M := M) hp h
        exact aOps_none g1 (aOp_mono (fun v st' h2 => aOps_none g2 h2) h1)
      · cases hp
    · split at h
      · rename_i m x p t u y hp
        split at hp
        · rename_i om o2
          obtain ⟨g1, g2, g3, h1⟩ := xTriple_alloc (P := P) (M := M) hp h
          exact aOps_none g1 (aOp_mono (fun v st' h2 => aOps_none g2 (aOp_mono (fun v1 st1 h3 => aOps_none g3 h3) h2)) h1)
        · cases hp
      obtain ⟨b, hb, h1, h2⟩ := xWant_eq h
      unfold aOps
      rw [hb]
      refine ⟨fun e => aOp_mono (fun v st' hk => ?_) (xOp_eq (h1 e)), fun e => ?_⟩
      · rw [setK_eq] at hk; exact xOps_eq rest _ _ _ hk
      · have := h2 e; rw [setK_eq] at this; exact xOps_eq rest _ _ _ this
def isDet (op : Op) : Bool := isPure op || (match op with | .load .. => true | _ => false)
theorem pick_one {r : TRow} {cs : List AV} {i : Nat} {k : AV → Prop} (h : pick r cs i k) : ∃ v, (pick r cs i fun v' => v' = v) ∧ k v := by
  unfold pick at *
  split at h
  · exact ⟨_, ⟨h.1, rfl⟩, h.2⟩
  · split at h
    · exact ⟨_, rfl, h⟩
    · exact h.elim
theorem det_one {P : Program} {T : Tab} {M : MTab} {o : Oper} (hd : isDet o.op = true) {A : List AV} {st : St} {k : KK} (h : aOp P T M o A st k) : ∃ v, (aOp P T M o A st fun v' s => v' = v ∧ s = st) ∧ k v st := by
  have fin : ∀ {v : AV}, (aOp P T M o A st fun v' s => v' = v) → isDet o.op = true → True := fun _ _ => trivial
  unfold aOp at *
  split at h
  · exact ⟨_, ⟨rfl, rfl⟩, h⟩
  · exact ⟨_, ⟨rfl, rfl⟩, h⟩
  · split at h
    · rename_i b hb
      cases b with
      | true => exact ⟨_, ⟨fun _ => ⟨rfl, rfl⟩, fun e => by cases e⟩, h.1 rfl⟩
      | false => exact ⟨_, ⟨(fun e => by cases e), fun _ => ⟨rfl, rfl⟩⟩, h.2 rfl⟩
    · exact h.elim
  · split at h
    · exact ⟨_, ⟨rfl, rfl⟩, h⟩
    · exact h.elim
  · split at h
    · exact ⟨_, ⟨rfl, rfl⟩, h⟩
    · exact h.elim
  · unfold aLoad at *
    split at h
    · exact h.elim
    · split at h
      · obtain ⟨v, h1, h2⟩ := pick_one h
        exact ⟨v, pick_mono (fun v' e => ⟨e, rfl⟩) h1, h2⟩
      · split at h
        · obtain ⟨v, h1, h2⟩ := pick_one h.2.2
          exact ⟨v, ⟨h.1, h.2.1, pick_mono (fun v' e => ⟨e, rfl⟩) h1⟩, h2⟩
        · exact h.elim
      · exact h.elim
  · rename_i ho; rw [ho] at hd; cases hd
  · rename_i ho; rw [ho] at hd; cases hd
  · rename_i ho; rw [ho] at hd; cases hd
  · unfold aBuild at *
    split at h
    · exact h.elim
    · split at h
      · split at h
        · exact h.elim
        · split at h
          · exact ⟨_, ⟨rfl, rfl⟩, h⟩
          · exact h.elim
      · split at h
        · exact h.elim
        · split at h
          · exact ⟨_, ⟨rfl, rfl⟩, h⟩
          · exact h.elim
      · exact h.elim
  · rename_i ho; rw [ho] at hd; cases hd
  · exact ⟨_, ⟨h.1, rfl, rfl⟩, h.2⟩
  · split at h
    · exact ⟨_, ⟨rfl, rfl⟩, h⟩
    · exact h.elim
  · exact ⟨_, ⟨h.1, rfl, rfl⟩, h.2⟩
  · exact ⟨_, ⟨rfl, rfl⟩, h⟩
  · rename_i ho; rw [ho] at hd; cases hd
  · unfold aSlice at *
    split at h
    · exact h.elim
    · split at h
      · split at h
        · exact h.elim
        · split at h
          · exact ⟨_, ⟨h.1, h.2.1, h.2.2.1, h.2.2.2.1, rfl, rfl⟩, h.2.2.2.2⟩
          · split at h
            · split at h
              · exact ⟨_, ⟨h.1, h.2.1, rfl, rfl⟩, h.2.2⟩
              · exact h.elim
            · split at h
              · exact ⟨_, ⟨h.1, h.2.1, h.2.2.1, rfl, rfl⟩, h.2.2.2⟩
              · exact h.elim
            · split at h
              · exact ⟨_, ⟨h.1, h.2.1, rfl, rfl⟩, h.2.2⟩
              · exact h.elim
            · exact h.elim
      · split at h
        · split at h
          · exact ⟨_, ⟨h.1, rfl, rfl⟩, h.2⟩
          · exact h.elim
        · exact h.elim
      · exact h.elim
  · unfold aFieldAddr at *
    split at h
    · exact h.elim
    · split at h
      · split at h
        · exact h.elim
        · split at h
          · exact h.elim
          · obtain ⟨h0, h⟩ := h
            split at h
            · exact ⟨_, ⟨h0, rfl, rfl⟩, h⟩
            · exact ⟨_, ⟨h0, rfl, rfl⟩, h⟩
            · exact h.elim
      · exact h.elim
  · unfold aField at *
    split at h
    · exact h.elim
    · split at h
      · split at h
        · exact h.elim
        · split at h
          · exact h.elim
          · split at h
            · obtain ⟨v, h1, h2⟩ := pick_one h
              exact ⟨v, pick_mono (fun v' e => ⟨e, rfl⟩) h1, h2⟩
            · exact h.elim
      · exact h.elim
  · unfold aIndexAddr at *
    split at h
    · exact h.elim
    · split at h
      · split at h
        · exact h.elim
        · split at h
          · split at h
            · exact ⟨_, ⟨h.1, h.2.1, rfl, rfl⟩, h.2.2⟩
            · exact ⟨_, ⟨h.1, h.2.1, rfl, rfl⟩, h.2.2⟩
            · exact h.elim
          · exact h.elim
      · split at h
        · exact h.elim
        · split at h
          · obtain ⟨h0, h⟩ := h
            split at h
            · exact ⟨_, ⟨h0, rfl, rfl⟩, h⟩
            · exact ⟨_, ⟨h0, rfl, rfl⟩, h⟩
            · exact h.elim
          · exact h.elim
      · exact h.elim
  · unfold aIndex at *
    split at h
    · exact h.elim
    · split at h
      · obtain ⟨h0, h⟩ := h
        exact ⟨_, ⟨h0, rfl, rfl⟩, h⟩
      · exact h.elim
  · split at h
    · exact ⟨_, ⟨rfl, rfl⟩, h⟩
    · exact h.elim
  · unfold aExtract at *
    split at h
    · split at h
      · exact ⟨_, ⟨rfl, rfl⟩, h⟩
      · exact h.elim
    · exact h.elim
  · rename_i c ho
    rw [ho] at hd
    split at h
    · rename_i b hb
      simp only [isDet, isPure, hb, Bool.or_false] at hd
      unfold aBuiltin at *
      split at h
      · split at h
        · split at h
          · split at h
            · exact ⟨_, ⟨rfl, rfl⟩, h⟩
            · exact h.elim
          · exact h.elim
        · exact h.elim
      · split at h
        · split at h
          · exact ⟨_, ⟨rfl, rfl⟩, h⟩
          · exact h.elim
        · exact h.elim
      · split at h
        · split at h
          · exact ⟨_, ⟨rfl, rfl⟩, h⟩
          · exact h.elim
        · exact h.elim
      · cases hd
      · exact h.elim
    · rename_i r name hb
      simp [isDet, isPure, hb] at hd
    · rename_i f hb
      simp [isDet, isPure, hb] at hd
  · exact h.elim
def xRun (P : Program) (T : Tab) (M : MTab) (frz : List Nat) (ops : List Oper) (eff ext : List Nat) : List Nat → List AV → St → KA → Prop
  | [], A, st, k => k A st
  | i :: ord, A, st, k => match ops[i]? with
    | none => False
    | some o => match (match ord with | [j] => (match ops[j]? with | some o2 => (match eff.contains i && eff.contains j with | true => pairOf frz o o2 | false => none) | none => none) | _ => none) with
      | some (p, t, u, y) => (match ord with | [j] => (match ops[j]? with | some o2 => xPair T p t u y o2.dst A st k | none => False) | _ => False)
      | none => xWant ops o A
        (match eff.contains i with
          | true => xOp P T M (inF frz o.dst) o.op A st fun v st' => setK A o.dst v fun A' => xRun P T M frz ops eff ext ord A' st' k
          | false => match ext.contains i with
            | true => ∃ v, (∀ st', Ext st st' → xOp P T M (inF frz o.dst) o.op A st' fun v' st'' => v' = v ∧ st'' = st') ∧ setK A o.dst v fun A' => xRun P T M frz ops eff ext ord A' st k
            | false => match isDet o.op with
              | true => xOp P T M (inF frz o.dst) o.op A st fun v _ => setK A o.dst v fun A' => xRun P T M frz ops eff ext ord A' st k
              | false => ∃ v, (xOp P T M (inF frz o.dst) o.op A st fun v' st'' => v' = v ∧ st'' = st) ∧ setK A o.dst v fun A' => xRun P T M frz ops eff ext ord A' st k)
        (setK A o.dst (.tuple []) fun A' => xRun P T M frz ops eff ext ord A' st k)
theorem xRun_eq {P : Program} {T : Tab} {M : MTab} {frz : List Nat} {ops : List Oper} {eff ext : List Nat} : ∀ (ord : List Nat) (A : List AV) (st : St) (k : KA), xRun P T M frz ops eff ext ord A st k → dRun P T M ops eff ext ord A st (Seen k)
  | [], A, st, k, h => ⟨A, st, ShiftA.refl A st, h⟩
  | i :: ord, A, st, k, h => by
    unfold xRun at h
    cases ho : ops[i]? with
    | none => rw [ho] at h; exact h.elim
    | some o =>
      rw [ho] at h
      simp only at h
      split at h
      · rename_i p t u y hp
        split at hp
        · rename_i j
          split at hp
          · rename_i o2 ho2
            split at hp
            · rename_i hee
              simp only [Bool.and_eq_true] at hee
              simp only [ho2] at h
              obtain ⟨g1, g2, h1⟩ := xPair_alloc (P := P) (M := M) hp h
              unfold dRun
              rw [ho]
              have w1 : aWant ops o A = some true := by unfold aWant; rw [g1]
              simp only [w1]
              refine ⟨fun _ => ?_, fun e => by cases e⟩
              rw [hee.1]
              refine aOp_mono (fun v st' h2 => ?_) h1
              unfold dRun
              rw [ho2]
              have w2 : aWant ops o2 (putA A o.dst v) = some true := by unfold aWant; rw [g2]
              simp only [w2]
              refine ⟨fun _ => ?_, fun e => by cases e⟩
              rw [hee.2]
              exact aOp_mono (fun v' st'' h3 => h3) h2
            · cases hp
          · cases hp
        · cases hp
      · unfold dRun
        rw [ho]
        simp only
        obtain ⟨b, hb, h1, h2⟩ := xWant_eq h
        rw [hb]
        simp only
        refine ⟨fun e => ?_, fun e => ?_⟩
        · have h1 := h1 e
          split at h1
          · rename_i hc
            rw [hc]
            exact aOp_mono (fun v st' hk => by rw [setK_eq] at hk; exact xRun_eq ord _ _ _ hk) (xOp_eq h1)
          · rename_i hc
            rw [hc]
            simp only
            split at h1
            · rename_i hx
              rw [hx]
              obtain ⟨v, hv, hk⟩ := h1
              rw [setK_eq] at hk
              exact ⟨v, fun st' hs => xOp_eq (hv st' hs), xRun_eq ord _ _ _ hk⟩
            · rename_i hx
              rw [hx]
              simp only
              split at h1
              · rename_i hdet
                obtain ⟨v, hv, hk⟩ := det_one hdet (xOp_eq h1)
                rw [setK_eq] at hk
                exact ⟨v, hv, xRun_eq ord _ _ _ hk⟩
              · obtain ⟨v, hv, hk⟩ := h1
                rw [setK_eq] at hk
                exact ⟨v, xOp_eq hv, xRun_eq ord _ _ _ hk⟩
        · have := h2 e
          rw [setK_eq] at this
          exact xRun_eq ord _ _ _ this
def xGen (P : Program) (T : Tab) (M : MTab) (frz : List Nat) (ops : List Oper) (i : Nat) (K : KA) (A : List AV) (st : St) : Prop :=
  match ops[i]? with
  | none => False
  | some o => xWant ops o A (xOp P T M (inF frz o.dst) o.op A st fun v st' => setK A o.dst v fun A' => K A' st') (setK A o.dst (.tuple []) fun A' => K A' st)
def xQui (P : Program) (T : Tab) (M : MTab) (frz : List Nat) (ops : List Oper) (i : Nat) (K : KA) (A : List AV) (st : St) : Prop :=
  match ops[i]? with
  | none => False
  | some o => xWant ops o A
    (match isDet o.op with
      | true => xOp P T M (inF frz o.dst) o.op A st fun v _ => setK A o.dst v fun A' => K A' st
      | false => ∃ v, (xOp P T M (inF frz o.dst) o.op A st fun v' st'' => v' = v ∧ st'' = st) ∧ setK A o.dst v fun A' => K A' st)
    (setK A o.dst (.tuple []) fun A' => K A' st)
def xRunT (P : Program) (T : Tab) (M : MTab) (frz : List Nat) (ops : List Oper) : OT → List AV → St → KA → Prop
  | .done, A, st, k => k A st
  | .gen i t, A, st, k => xGen P T M frz ops i (fun A' st' => xRunT P T M frz ops t A' st' k) A st
  | .qui i t, A, st, k => xQui P T M frz ops i (fun A' st' => xRunT P T M frz ops t A' st' k) A st
  | .two i j t u, A, st, k => xGen P T M frz ops i (fun A' st' => xRunT P T M frz ops t A' st' k) A st ∧ xGen P T M frz ops j (fun A' st' => xRunT P T M frz ops u A' st' k) A st
theorem xGen_eq {P : Program} {T : Tab} {M : MTab} {frz : List Nat} {ops : List Oper} {i : Nat} {K K' : KA} {A : List AV} {st : St} (hK : ∀ A st, K A st → K' A st) (h : xGen P T M frz ops i K A st) : dGen P T M ops i K' A st := by
  unfold xGen at h
  unfold dGen
  cases ho : ops[i]? with
  | none => rw [ho] at h; exact h.elim
  | some o =>
    rw [ho] at h
    simp only at h ⊢
    obtain ⟨b, hb, h1, h2⟩ := xWant_eq h
    rw [hb]
    refine ⟨fun e => ?_, fun e => ?_⟩
    · exact aOp_mono (fun v st' hk => by rw [setK_eq] at hk; exact hK _ _ hk) (xOp_eq (h1 e))
    · have := h2 e
      rw [setK_eq] at this; exact hK _ _ this
theorem xQui_eq {P : Program} {T : Tab} {M : MTab} {frz : List Nat} {ops : List Oper} {i : Nat} {K K' : KA} {A : List AV} {st : St} (hK : ∀ A st, K A st → K' A st) (h : xQui P T M frz ops i K A st) : dQui P T M ops i K' A st := by
  unfold xQui at h
  unfold dQui
  cases ho : ops[i]? with
  | none => rw [ho] at h; exact h.elim
  | some o =>
    rw [ho] at h
    simp only at h ⊢
    obtain ⟨b, hb, h1, h2⟩ := xWant_eq h
    rw [hb]
    refine ⟨fun e => ?_, fun e => ?_⟩
    · have h1 := h1 e
      split at h1
      · rename_i hdet
        obtain ⟨v, hv, hk⟩ := det_one hdet (xOp_eq h1)
        rw [setK_eq] at hk
        exact ⟨v, hv, hK _ _ hk⟩
      · obtain ⟨v, hv, hk⟩ := h1
        rw [setK_eq] at hk
        exact ⟨v, xOp_eq hv, hK _ _ hk⟩
    · have := h2 e
      rw [setK_eq] at this; exact hK _ _ this
theorem xRunT_eq {P : Program} {T : Tab} {M : MTab} {frz : List Nat} {ops : List Oper} : ∀ (t : OT) (A : List AV) (st : St) (k : KA), xRunT P T M frz ops t A st k → dRunT P T M ops t A st (Seen k)
  | .done, A, st, k, h => ⟨A, st, ShiftA.refl A st, h⟩
  | .gen i t, A, st, k, h => xGen_eq (fun A st h => xRunT_eq t A st k h) h
  | .qui i t, A, st, k, h => xQui_eq (fun A st h => xRunT_eq t A st k h) h
  | .two i j t u, A, st, k, h => ⟨xGen_eq (fun A st h => xRunT_eq t A st k h) h.1, xGen_eq (fun A st h => xRunT_eq u A st k h) h.2⟩
def xDr (P : Program) (T : Tab) (M : MTab) (frz : List Nat) (ops : List Oper) (A : List AV) (st : St) (k : KA) : Prop :=
  ∃ eff ext ord : List Nat, match ord with
    | [] => ∃ t : OT, (Region.noSelect ops.toArray && okT ops.toArray eff t ops.length (Array.replicate ops.length false)) = true ∧ xRunT P T M frz ops t A st k
    | _ :: _ => (Region.noSelect ops.toArray && ordOk ops.toArray eff ext ord (Array.replicate ops.length false) && (ord.length == ops.length)) = true ∧ xRun P T M frz ops eff ext ord A st k
theorem xDr_eq {P : Program} {T : Tab} {M : MTab} {frz : List Nat} {ops : List Oper} {A : List AV} {st : St} {k : KA} (h : xDr P T M frz ops A st k) : Dr P T M ops A st (Seen k) := by
  obtain ⟨eff, ext, ord, h⟩ := h
  refine ⟨eff, ext, ord, ?_⟩
  split at h
  · obtain ⟨t, h1, h2⟩ := h
    exact ⟨t, h1, xRunT_eq t _ _ _ h2⟩
  · exact ⟨h.1, xRun_eq _ _ _ _ h.2⟩
def replK : Nat → (List AV → Prop) → Prop
  | 0, k => k []
  | n + 1, k => replK n fun A => k (.junk :: A)
theorem replK_eq : ∀ (n : Nat) (k : List AV → Prop), replK n k = k (List.replicate n .junk)
  | 0, k => rfl
  | n + 1, k => by rw [replK, replK_eq n]; rfl
def setsK : List Nat → List AV → List AV → (List AV → Prop) → Prop
  | i :: is, v :: vs, A, k => setN A i v fun A' => setsK is vs A' k
  | _, _, A, k => k A
theorem setsK_eq : ∀ (is : List Nat) (vs A : List AV) (k : List AV → Prop), setsK is vs A k = k ((is.zip vs).foldl (fun A p => A.set p.1 p.2) A)
  | [], vs, A, k => by simp [setsK]
  | i :: is, [], A, k => by simp [setsK]
  | i :: is, v :: vs, A, k => by simp only [setsK, setN_eq, setsK_eq is vs, List.zip_cons_cons, List.foldl_cons]
def getsK (A : List AV) : List Nat → (List AV → Prop) → Prop
  | [], k => k []
  | i :: is, k => getK A i fun v => getsK A is fun vs => k (v :: vs)
theorem getsK_eq (A : List AV) : ∀ (is : List Nat) (k : List AV → Prop), getsK A is k = k (is.map fun i => A.getD i AV.junk)
  | [], k => rfl
  | i :: is, k => by simp only [getsK, getK_eq, getsK_eq A is, List.map_cons]
def X (P : Program) (T : Tab) (M : MTab) (frz : List Nat) : Code → List AV → St → (Exit → KA) → Prop
  | .skip, A, st, K => K .normal A st
  | .region _ ops draw, A, st, K => match draw with
    | false => xOps P T M frz ops.toList ops.toList A st (K .normal)
    | true => xDr P T M frz ops.toList A st (K .normal)
  | .seq x y, A, st, K => X P T M frz x A st fun e A' st' => match e with
    | .normal => X P T M frz y A' st' K
    | e => K e A' st'
  | .cond c x y, A, st, K => evK A c fun v => match v with
    | .bool b => forkB b (X P T M frz x A st K) (X P T M frz y A st K)
    | .ubool => X P T M frz x A st K ∧ X P T M frz y A st K
    | _ => False
  | .block id c, A, st, K => X P T M frz c A st fun e A' st' => match e with
    | .exit j => (match Nat.beq j id with | true => K .normal A' st' | false => K (.exit j) A' st')
    | e => K e A' st'
  | .loop c, A, st, K => ∃ (keep : List Nat) (I : Nat → KA), (getsK A keep fun us => ∃ m, I m us st) ∧ ∀ m vs st', I m vs st' → replK A.length fun B => setsK keep vs B fun A' => X P T M frz c A' st' fun e A'' st'' => match e with
    | .normal => A''.length = A.length ∧ getsK A'' keep fun us => ∃ m', m' < m ∧ I m' us st''
    | e => K e A'' st''
  | .exit id, A, st, K => K (.exit id) A st
  | .ret, A, st, K => K .ret A st
  | _, _, _, _ => False
theorem W_mono {P : Program} {T : Tab} {M : MTab} : ∀ (c : Code) (A : List AV) (st : St) (K K' : Exit → KA), (∀ e A st, K e A st → K' e A st) → W P T M (Dr P T M) c A st K → W P T M (Dr P T M) c A st K' := by
  have hops : ∀ (ops l : List Oper) (A : List AV) (st : St) (k k' : KA), (∀ A st, k A st → k' A st) → aOps P T M ops l A st k → aOps P T M ops l A st k' := by
    intro ops l
    induction l with
    | nil => intro A st k k' hk h; exact hk _ _ h
    | cons o l ih =>
      intro A st k k' hk h
      unfold aOps at h ⊢
      split at h
      · exact h.elim
      · exact ⟨fun e => aOp_mono (fun v st h => ih _ _ _ _ hk h) (h.1 e), fun e => ih _ _ _ _ hk (h.2 e)⟩
  have hrun : ∀ (ops : List Oper) (eff ext ord : List Nat) (A : List AV) (st : St) (k k' : KA), (∀ A st, k A st → k' A st) → dRun P T M ops eff ext ord A st k → dRun P T M ops eff ext ord A st k' := by
    intro ops eff ext ord
    induction ord with
    | nil => intro A st k k' hk h; exact hk _ _ h
    | cons i ord ih =>
      intro A st k k' hk h
      unfold dRun at h ⊢
      split at h
      · exact h
      · split at h
        · exact h
        · refine ⟨fun e => ?_, fun e => ih _ _ _ _ hk (h.2 e)⟩
          have h := h.1 e
          split at h
          · exact aOp_mono (fun v st h => ih _ _ _ _ hk h) h
          · obtain ⟨v, h1, h2⟩ := h
            exact ⟨v, h1, ih _ _ _ _ hk h2⟩
  have hgen : ∀ (ops : List Oper) (i : Nat) (A : List AV) (st : St) (k k' : KA), (∀ A st, k A st → k' A st) → dGen P T M ops i k A st → dGen P T M ops i k' A st := by
    intro ops i A st k k' hk h
    unfold dGen at h ⊢
    split at h
    · exact h
    · split at h
      · exact h
      · exact ⟨fun e => aOp_mono (fun v st h => hk _ _ h) (h.1 e), fun e => hk _ _ (h.2 e)⟩
  have hrunT : ∀ (ops : List Oper) (t : OT) (A : List AV) (st : St) (k k' : KA), (∀ A st, k A st → k' A st) → dRunT P T M ops t A st k → dRunT P T M ops t A st k' := by
    intro ops t
    induction t with
    | done => intro A st k k' hk h; exact hk _ _ h
    | gen i t ih => intro A st k k' hk h; exact hgen _ _ _ _ _ _ (fun A st h => ih _ _ _ _ hk h) h
    | qui i t ih =>
      intro A st k k' hk h
      unfold dRunT dQui at h ⊢
      split at h
      · exact h
      · split at h
        · exact h
        · refine ⟨fun e => ?_, fun e => ih _ _ _ _ hk (h.2 e)⟩
          obtain ⟨v, h1, h2⟩ := h.1 e
          exact ⟨v, h1, ih _ _ _ _ hk h2⟩
    | two i j t u iht ihu => intro A st k k' hk h; exact ⟨hgen _ _ _ _ _ _ (fun A st h => iht _ _ _ _ hk h) h.1, hgen _ _ _ _ _ _ (fun A st h => ihu _ _ _ _ hk h) h.2⟩
  intro c
  induction c with
  | skip => intro A st K K' hK h; exact hK _ _ _ h
  | region id ops draw =>
    intro A st K K' hK h
    unfold W at h ⊢
    cases draw with
    | false => exact hops _ _ _ _ _ _ (fun A st ⟨A', st', h1, h2⟩ => ⟨A', st', h1, hK _ _ _ h2⟩) h
    | true =>
      obtain ⟨eff, ext, ord, h⟩ := h
      refine ⟨eff, ext, ord, ?_⟩
      split at h
      · obtain ⟨t, h1, h2⟩ := h
        exact ⟨t, h1, hrunT _ _ _ _ _ _ (fun A st ⟨A', st', h1, h2⟩ => ⟨A', st', h1, hK _ _ _ h2⟩) h2⟩
      · exact ⟨h.1, hrun _ _ _ _ _ _ _ _ (fun A st ⟨A', st', h1, h2⟩ => ⟨A', st', h1, hK _ _ _ h2⟩) h.2⟩
  | seq x y ihx ihy =>
    intro A st K K' hK h
    unfold W at h ⊢
    refine ihx _ _ _ _ (fun e A st h => ?_) h
    cases e <;> first | exact hK _ _ _ h | exact ihy _ _ _ _ hK h
  | cond c x y ihx ihy =>
    intro A st K K' hK h
    unfold W at h ⊢
    split at h
    · exact ⟨fun e => ihx _ _ _ _ hK (h.1 e), fun e => ihy _ _ _ _ hK (h.2 e)⟩
    · exact ⟨ihx _ _ _ _ hK h.1, ihy _ _ _ _ hK h.2⟩
    · exact h
  | block id c ih =>
    intro A st K K' hK h
    unfold W at h ⊢
    refine ih _ _ _ _ (fun e A st h => ?_) h
    cases e <;> simp only at h ⊢ <;> try exact hK _ _ _ h
    split at h
    · rename_i e; rw [if_pos e]; exact hK _ _ _ h
    · rename_i e; rw [if_neg e]; exact hK _ _ _ h
  | loop c ih =>
    intro A st K K' hK h
    unfold W at h ⊢
    obtain ⟨keep, I, h0, hI⟩ := h
    refine ⟨keep, I, h0, fun m vs st' hi => ih _ _ _ _ (fun e A st h => ?_) (hI m vs st' hi)⟩
    cases e <;> first | exact hK _ _ _ h | exact h
  | exit id => intro A st K K' hK h; exact hK _ _ _ h
  | ret => intro A st K K' hK h; exact hK _ _ _ h
  | rangeFunc _ _ _ _ => intro A st K K' hK h; exact h
  | scope _ => intro A st K K' hK h; exact h
  | label _ => intro A st K K' hK h; exact h
  | goto _ => intro A st K K' hK h; exact h
  | refuse _ => intro A st K K' hK h; exact h
theorem X_W {P : Program} {T : Tab} {M : MTab} {frz : List Nat} : ∀ (c : Code) (A : List AV) (st : St) (K : Exit → KA), X P T M frz c A st K → W P T M (Dr P T M) c A st K := by
  intro c
  induction c with
  | skip => intro A st K h; exact h
  | region id ops draw =>
    intro A st K h
    unfold X at h
    unfold W
    cases draw with
    | false => exact xOps_eq _ _ _ _ h
    | true => exact xDr_eq h
  | seq x y ihx ihy =>
    intro A st K h
    unfold X at h
    unfold W
    refine W_mono _ _ _ _ _ (fun e A st h => ?_) (ihx _ _ _ h)
    cases e <;> first | exact h | exact ihy _ _ _ h
  | cond c x y ihx ihy =>
    intro A st K h
    unfold X at h
    unfold W
    rw [evK_eq] at h
    split at h
    · rename_i b hb
      rw [hb]
      obtain ⟨h1, h2⟩ := (forkB_iff _ _ _).1 h
      exact ⟨fun e => ihx _ _ _ (h1 e), fun e => ihy _ _ _ (h2 e)⟩
    · rename_i hb
      rw [hb]
      exact ⟨ihx _ _ _ h.1, ihy _ _ _ h.2⟩
    · exact h.elim
  | block id c ih =>
    intro A st K h
    unfold X at h
    unfold W
    refine W_mono _ _ _ _ _ (fun e A st h => ?_) (ih _ _ _ h)
    cases e <;> simp only at h ⊢ <;> try exact h
    split at h
    · rename_i e; rw [if_pos (Nat.eq_of_beq_eq_true e)]; exact h
    · rename_i e; rw [if_neg (Nat.ne_of_beq_eq_false e)]; exact h
  | loop c ih =>
    intro A st K h
    unfold X at h
    unfold W
    obtain ⟨keep, I, h0, hI⟩ := h
    rw [getsK_eq] at h0
    refine ⟨keep, I, h0, fun m vs st' hi => ?_⟩
    have h1 := hI m vs st' hi
    rw [replK_eq, setsK_eq] at h1
    refine W_mono _ _ _ _ _ (fun e A st h => ?_) (ih _ _ _ h1)
    cases e <;> first | exact h | (rw [getsK_eq] at h; exact h)
  | exit id => intro A st K h; exact h
  | ret => intro A st K h; exact h
  | rangeFunc _ _ _ _ => intro A st K h; exact h
  | scope _ => intro A st K h; exact h
  | label _ => intro A st K h; exact h
  | goto _ => intro A st K h; exact h
  | refuse _ => intro A st K h; exact h
def xRes1 (T : Tab) (A : List AV) (st : St) (r : ResultVar) (k : AV → Prop) : Prop :=
  match r with
  | .tmp t => getK A t k
  | .cell t ty => getK A t fun p => xLoad T ty p st (fun v _ => k v)
def xRess (T : Tab) (A : List AV) (st : St) : List ResultVar → (List AV → Prop) → Prop
  | [], k => k []
  | r :: rs, k => xRes1 T A st r fun v => xRess T A st rs fun vs => k (v :: vs)
theorem xRess_eq {T : Tab} {A : List AV} {st : St} : ∀ (rs : List ResultVar) (k : List AV → Prop), xRess T A st rs k → aRess T A st rs k
  | [], k, h => h
  | r :: rs, k, h => by
    simp only [xRess] at h
    simp only [aRess]
    cases r with
    | tmp t => simp only [xRes1, aRes1, getK_eq] at h ⊢; exact xRess_eq rs _ h
    | cell t ty => simp only [xRes1, aRes1, getK_eq] at h ⊢; exact aLoad_mono (fun v hv => xRess_eq rs _ hv) (xLoad_eq h)
def xEnd (T : Tab) (rs : List ResultVar) (post : KK) : Exit → KA := fun e A st => match e with
  | .normal => xRess T A st rs fun vs => post (pack vs) st
  | .ret => xRess T A st rs fun vs => post (pack vs) st
  | _ => False
def undK : Nat → (List AV → Prop) → Prop
  | 0, k => k []
  | n + 1, k => undK n fun A => k (.tuple [] :: A)
theorem undK_eq : ∀ (n : Nat) (k : List AV → Prop), undK n k = k (List.replicate n (.tuple []))
  | 0, k => rfl
  | n + 1, k => by rw [undK, undK_eq n]; rfl
def startK : List AV → Nat → (List AV → Prop) → Prop
  | [], n, k => undK n k
  | v :: vs, n, k => startK vs (n - 1) fun A => k (v :: A)
theorem startK_eq : ∀ (args : List AV) (n : Nat) (k : List AV → Prop), startK args n k = k (start args n)
  | [], n, k => by rw [startK, undK_eq]; simp [start]
  | v :: vs, n, k => by
    rw [startK, startK_eq vs (n - 1)]
    unfold start
    simp only [List.length_cons, List.cons_append]
    rw [show n - 1 - vs.length = n - (vs.length + 1) from by omega]
theorem S_of_X0 {P : Program} {T : Tab} {M : MTab} (frz : List Nat) (hG : Good P T M) (hm : P.follows .mixedOrders = true) {f : FuncId} {fn : Func} {c : Code} {args : List AV} {st : St} {post : KK} {n : Nat} {rs : Array ResultVar}
    (hf : P.funcs[f]? = some fn) (hname : (fn.name == "runtime.NumGoroutine") = false) (hb : fn.body = some c) (hn : fn.ntmps = n) (hr : fn.results = rs)
    (h : startK args n fun A => X P T M frz c A st (xEnd T rs.toList post)) : S P f args st post := by
  subst hn; subst hr
  rw [startK_eq] at h
  refine S_of_W hG (dr_ok hG hm) hf hname hb (W_mono _ _ _ _ _ (fun e A st h => ?_) (X_W _ _ _ _ h))
  cases e <;> first | exact h | (exact xRess_eq _ _ h)
noncomputable def yOps (P : Program) (T : Tab) (M : MTab) (frz : List Nat) (ops : List Oper) (l : List Oper) : List AV → St → KA → Prop :=
  List.rec (motive := fun _ => List AV → St → KA → Prop) (fun A st k => k A st)
    (fun o rest ih A st k => match (match rest with | [o2] => pairOf frz o o2 | _ => none) with
      | some (p, t, u, y) => (match rest with | [o2] => xPair T p t u y o2.dst A st k | _ => False)
      | none => match (match rest with | [om, o2] => tripleOf frz o om o2 | _ => none) with
      | some (m, x, p, t, u, y) => (match rest with | [_, o2] => xTriple T m x p t u y o2.dst A st k | _ => False)
      | none => xWant ops o A
        (xOp P T M (inF frz o.dst) o.op A st fun v st' => setK A o.dst v fun A' => ih A' st' k)
        (setK A o.dst (.tuple []) fun A' => ih A' st k)) l
theorem yOps_eq {P : Program} {T : Tab} {M : MTab} {frz : List Nat} {ops : List Oper} : ∀ l, yOps P T M frz ops l = xOps P T M frz ops l
  | [] => rfl
  | o :: rest => by
    funext A st k
    conv => rhs; unfold xOps
    rw [← yOps_eq rest]
    rfl
noncomputable def yRun (P : Program) (T : Tab) (M : MTab) (frz : List Nat) (ops : List Oper) (eff ext : List Nat) (ord : List Nat) : List AV → St → KA → Prop :=
  List.rec (motive := fun _ => List AV → St → KA → Prop) (fun A st k => k A st)
    (fun i ord ih A st k => match ops[i]? with
      | none => False
      | some o => match (match ord with | [j] => (match ops[j]? with | some o2 => (match eff.contains i && eff.contains j with | true => pairOf frz o o2 | false => none) | none => none) | _ => none) with
        | some (p, t, u, y) => (match ord with | [j] => (match ops[j]? with | some o2 => xPair T p t u y o2.dst A st k | none => False) | _ => False)
        | none => xWant ops o A
          (match eff.contains i with
            | true => xOp P T M (inF frz o.dst) o.op A st fun v st' => setK A o.dst v fun A' => ih A' st' k
            | false => match ext.contains i with
              | true => ∃ v, (∀ st', Ext st st' → xOp P T M (inF frz o.dst) o.op A st' fun v' st'' => v' = v ∧ st'' = st') ∧ setK A o.dst v fun A' => ih A' st k
              | false => match isDet o.op with
                | true => xOp P T M (inF frz o.dst) o.op A st fun v _ => setK A o.dst v fun A' => ih A' st k
                | false => ∃ v, (xOp P T M (inF frz o.dst) o.op A st fun v' st'' => v' = v ∧ st'' = st) ∧ setK A o.dst v fun A' => ih A' st k)
          (setK A o.dst (.tuple []) fun A' => ih A' st k)) ord
theorem yRun_eq {P : Program} {T : Tab} {M : MTab} {frz : List Nat} {ops : List Oper} {eff ext : List Nat} : ∀ l, yRun P T M frz ops eff ext l = xRun P T M frz ops eff ext l
  | [] => rfl
  | i :: ord => by
    funext A st k
    conv => rhs; unfold xRun
    rw [← yRun_eq ord]
    rfl
noncomputable def yRunT (P : Program) (T : Tab) (M : MTab) (frz : List Nat) (ops : List Oper) (t : OT) : List AV → St → KA → Prop :=
  OT.rec (motive := fun _ => List AV → St → KA → Prop) (fun A st k => k A st)
    (fun i _ ih A st k => xGen P T M frz ops i (fun A' st' => ih A' st' k) A st)
    (fun i _ ih A st k => xQui P T M frz ops i (fun A' st' => ih A' st' k) A st)
    (fun i j _ _ iht ihu A st k => xGen P T M frz ops i (fun A' st' => iht A' st' k) A st ∧ xGen P T M frz ops j (fun A' st' => ihu A' st' k) A st) t
theorem yRunT_eq {P : Program} {T : Tab} {M : MTab} {frz : List Nat} {ops : List Oper} : ∀ t, yRunT P T M frz ops t = xRunT P T M frz ops t
  | .done => rfl
  | .gen i t => by
    funext A st k
    conv => rhs; unfold xRunT
    rw [← yRunT_eq t]; rfl
  | .qui i t => by
    funext A st k
    conv => rhs; unfold xRunT
    rw [← yRunT_eq t]; rfl
  | .two i j t u => by
    funext A st k
    conv => rhs; unfold xRunT
    rw [← yRunT_eq t, ← yRunT_eq u]; rfl
noncomputable def yDr (P : Program) (T : Tab) (M : MTab) (frz : List Nat) (ops : List Oper) (A : List AV) (st : St) (k : KA) : Prop :=
  ∃ eff ext ord : List Nat, match ord with
    | [] => ∃ t : OT, (Region.noSelect ops.toArray && okT ops.toArray eff t ops.length (Array.replicate ops.length false)) = true ∧ yRunT P T M frz ops t A st k
    | _ :: _ => (Region.noSelect ops.toArray && ordOk ops.toArray eff ext ord (Array.replicate ops.length false) && (ord.length == ops.length)) = true ∧ yRun P T M frz ops eff ext ord A st k
theorem yDr_eq {P : Program} {T : Tab} {M : MTab} {frz : List Nat} {ops : List Oper} {A : List AV} {st : St} {k : KA} : yDr P T M frz ops A st k = xDr P T M frz ops A st k := by
  unfold yDr xDr
  simp only [yRun_eq, yRunT_eq]
noncomputable def Y (P : Program) (T : Tab) (M : MTab) (frz : List Nat) (c : Code) : List AV → St → (Exit → KA) → Prop :=
  Code.rec (motive := fun _ => List AV → St → (Exit → KA) → Prop)
    (fun A st K => K .normal A st)
    (fun _ ops draw A st K => match draw with
      | false => yOps P T M frz ops.toList ops.toList A st (K .normal)
      | true => yDr P T M frz ops.toList A st (K .normal))
    (fun _ _ x y A st K => x A st fun e A' st' => match e with
      | .normal => y A' st' K
      | e => K e A' st')
    (fun c _ _ x y A st K => evK A c fun v => match v with
      | .bool b => forkB b (x A st K) (y A st K)
      | .ubool => x A st K ∧ y A st K
      | _ => False)
    (fun id _ c A st K => c A st fun e A' st' => match e with
      | .exit j => (match Nat.beq j id with | true => K .normal A' st' | false => K (.exit j) A' st')
      | e => K e A' st')
    (fun _ c A st K => ∃ (keep : List Nat) (I : Nat → KA), (getsK A keep fun us => ∃ m, I m us st) ∧ ∀ m vs st', I m vs st' → replK A.length fun B => setsK keep vs B fun A' => c A' st' fun e A'' st'' => match e with
      | .normal => A''.length = A.length ∧ getsK A'' keep fun us => ∃ m', m' < m ∧ I m' us st''
      | e => K e A'' st'')
    (fun _ _ _ _ _ _ A st K => False)
    (fun id A st K => K (.exit id) A st)
    (fun _ _ A st K => False)
    (fun _ A st K => False)
    (fun _ A st K => False)
    (fun A st K => K .ret A st)
    (fun _ A st K => False) c
theorem Y_eq {P : Program} {T : Tab} {M : MTab} {frz : List Nat} : ∀ c, Y P T M frz c = X P T M frz c
  | .skip => rfl
  | .region _ ops draw => by
    funext A st K
    conv => rhs; unfold X
    cases draw with
    | false => show yOps _ _ _ _ _ _ _ _ _ = _; rw [yOps_eq]
    | true => show yDr _ _ _ _ _ _ _ _ = _; rw [yDr_eq]
  | .seq x y => by
    funext A st K
    conv => rhs; unfold X
    rw [← Y_eq x, ← Y_eq y]
    rfl
  | .cond c x y => by
    funext A st K
    conv => rhs; unfold X
    rw [← Y_eq x, ← Y_eq y]
    rfl
  | .block id c => by
    funext A st K
    conv => rhs; unfold X
    rw [← Y_eq c]
    rfl
  | .loop c => by
    funext A st K
    conv => rhs; unfold X
    rw [← Y_eq c]
    rfl
  | .exit id => rfl
  | .ret => rfl
  | .rangeFunc _ _ _ _ => rfl
  | .scope _ => rfl
  | .label _ => rfl
  | .goto _ => rfl
  | .refuse _ => rfl
theorem S_of_X {P : Program} {T : Tab} {M : MTab} (frz : List Nat) (hG : Good P T M) (hm : P.follows .mixedOrders = true) {f : FuncId} {fn : Func} {c : Code} {args : List AV} {st : St} {post : KK} {n : Nat} {rs : Array ResultVar}
    (hf : P.funcs[f]? = some fn) (hname : (fn.name == "runtime.NumGoroutine") = false) (hb : fn.body = some c) (hn : fn.ntmps = n) (hr : fn.results = rs)
    (h : startK args n fun A => Y P T M frz c A st (xEnd T rs.toList post)) : S P f args st post := by
  rw [Y_eq] at h
  exact S_of_X0 frz hG hm hf hname hb hn hr h
theorem upd_same (st : St) (b : Nat) (x : Blk) : upd st b x b = some x := by simp [upd]
theorem upd_ne {st : St} {b c : Nat} {x : Blk} (h : c ≠ b) : upd st b x c = st c := by simp [upd, h]
theorem upd_none {st : St} {b c : Nat} {x : Blk} (h : upd st b x c = none) : c ≠ b ∧ st c = none := by
  unfold upd at h
  split at h
  · cases h
  · rename_i e; exact ⟨e, h⟩
theorem del_upd {st : St} {b : Nat} (h : st b = none) (x : Blk) : del (upd st b x) b = st := funext fun c => by
  unfold del upd
  split
  · rename_i e; rw [e, h]
  · rfl
theorem call {P : Program} {f : FuncId} {args : List AV} {st : St} {post k : KK} (h : S P f args st post) (hk : ∀ v st', post v st' → k v st') : xCall P f args st k := by
  refine ⟨?_⟩; unfold aCallF; exact ⟨args, st, Shift.refl _ _, h.mono hk⟩
theorem call1 {P : Program} {f : FuncId} {args : List AV} {st : St} {v : AV} {k : KK} (h : S P f args st fun v' st' => v' = v ∧ st' = st) (hk : k v st) : xCall P f args st k :=
  call h fun v' st' ⟨e1, e2⟩ => by rw [e1, e2]; exact hk
theorem call_shift {P : Program} {f : FuncId} {args args' : List AV} {st st' : St} {k : KK} (hs : Shift args st args' st') (h : xCall P f args' st' k) : xCall P f args st k := by
  refine ⟨?_⟩
  have h := h.out
  unfold aCallF at *
  obtain ⟨a, s, h1, h2⟩ := h
  exact ⟨a, s, hs.trans h1, h2⟩
end Go.Ab
