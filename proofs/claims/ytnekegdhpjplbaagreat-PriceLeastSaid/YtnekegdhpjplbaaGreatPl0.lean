/- Part 0 of the proof: contracts of the functions that the law reaches -/
import Derived.Tactics
import Derived.RowKit3
import Derived.ArgAppend
import Derived.Orders
import Derived.Laws.Rows
import Derived.Laws.Cells
import Derived.Below
import Derived.Laws.CopyRow
import Derived.Laws.Tables
import Derived.Laws.MakeOwn
import Derived.Lib.ConvBytes
import Derived.Laws.StructEq
import Derived.Laws.Cover3
import Derived.Laws.BytesString
import Derived.OwnWalk
import Derived.Room.AppendOwn
import Derived.Great.BuildSlice
import Derived.Shelf.Abstract
import Derived.KernelRfl
/- The abstract machine, part 0: abstract values, how they stand for Go values in a world, and how worlds go on. -/
set_option linter.unusedVariables false
set_option linter.unusedSimpArgs false
namespace Go.Ab
open Go

/-- An abstract value. 'arr': a slice whose cells nobody writes any more; 'fptr': a pointer into such cells; 'own', 'optr': slices and pointers of blocks that the store knows. -/
inductive AV where
  | bool (b : Bool)
  | int (k : IntKind) (n : Int)
  | str (s : ByteArray)
  | nilp
  | nilf
  | nili
  | emp
  | arr (e n : Nat) (f : Nat → AV)
  | fptr (v : AV) (r : Nat)
  | own (e b off n : Nat)
  | optr (e b i r : Nat)
  | agg (cs : List AV)
  | fn (f : Fn) (first captured : List AV)
  | iface (t : TypeId) (v : AV)
  | tuple (vs : List AV)
  | ubool
  | junk
instance : Inhabited AV := ⟨.junk⟩

def AV.one : AV → Bool
  | .agg _ => false
  | .tuple _ => false
  | .junk => false
  | _ => true
def cellsOf : AV → List AV
  | .agg cs => cs
  | .tuple _ => []
  | .junk => []
  | v => [v]

/-- How an abstract value stands for a value: 'rd': the frozen cells; 'sz': how many cells a block has. -/
inductive Rep (rd : Addr → Option Value) (sz : Nat → Nat) : AV → Value → Prop
  | bool (b : Bool) : Rep rd sz (.bool b) (.bool b)
  | int (k : IntKind) (n : Int) : Rep rd sz (.int k n) (.int k n)
  | str (s : ByteArray) : Rep rd sz (.str s) (.string s)
  | nilp : Rep rd sz .nilp (.pointer none)
  | nilf : Rep rd sz .nilf .nilFunc
  | nili : Rep rd sz .nili .nilIface
  | emp (A : Option Addr) : Rep rd sz .emp (.slice A 0 0)
  | arr (e n : Nat) (f : Nat → AV) (A : Option Addr) (c : Nat) (g : Nat → Nat → Value) (hc : n ≤ c) (hA : 0 < n → ∃ a, A = some a)
      (hl : ∀ i, i < n → (cellsOf (f i)).length = e) (ho : ∀ i, i < n → (cellsOf (f i)).all AV.one = true)
      (hr : ∀ a, A = some a → ∀ i j, i < n → j < e → rd (a.add (i * e + j)) = some (g i j))
      (hg : ∀ (i j : Nat) (y : AV), i < n → (cellsOf (f i))[j]? = some y → Rep rd sz y (g i j)) : Rep rd sz (.arr e n f) (.slice A n c)
  | fptr (v : AV) (r : Nat) (a : Addr) (g : Nat → Value)
      (hr : ∀ j, j < (cellsOf v).length → rd (a.add j) = some (g j))
      (hg : ∀ (j : Nat) (y : AV), (cellsOf v)[j]? = some y → Rep rd sz y (g j)) : Rep rd sz (.fptr v r) (.pointer (some (a.add r)))
  | own (e b off n c : Nat) (hc : n ≤ c) (hs : (off + c) * e ≤ sz b) : Rep rd sz (.own e b off n) (.slice (some ⟨b, off * e, none⟩) n c)
  | optr (e b i r : Nat) : Rep rd sz (.optr e b i r) (.pointer (some ⟨b, i * e + r, none⟩))
  | agg (cs : List AV) (vs : Array Value) (hl : cs.length = vs.size) (hg : ∀ (j : Nat) (y : AV) (c : Value), cs[j]? = some y → vs[j]? = some c → Rep rd sz y c) : Rep rd sz (.agg cs) (.agg vs)
  | fn (f : Fn) (fs cs : List AV) (gs ds : Array Value) (hl : fs.length = gs.size) (hl' : cs.length = ds.size)
      (hg : ∀ (j : Nat) (y : AV) (c : Value), fs[j]? = some y → gs[j]? = some c → Rep rd sz y c) (hd : ∀ (j : Nat) (y : AV) (c : Value), cs[j]? = some y → ds[j]? = some c → Rep rd sz y c) :
      Rep rd sz (.fn f fs cs) (.func f gs ds)
  | iface (t : TypeId) (v : AV) (c : Value) (h : Rep rd sz v c) : Rep rd sz (.iface t v) (.iface t c)
  | tuple (cs : List AV) (vs : Array Value) (hl : cs.length = vs.size) (hg : ∀ (j : Nat) (y : AV) (c : Value), cs[j]? = some y → vs[j]? = some c → Rep rd sz y c) : Rep rd sz (.tuple cs) (.tuple vs)
  | ubool (b : Bool) : Rep rd sz .ubool (.bool b)
  | junk (c : Value) : Rep rd sz .junk c

theorem Rep.mono {rd rd' : Addr → Option Value} {sz sz' : Nat → Nat} (h1 : ∀ a v, rd a = some v → rd' a = some v) (h2 : ∀ b, sz b ≤ sz' b) {v : AV} {c : Value}
    (h : Rep rd sz v c) : Rep rd' sz' v c := by
  induction h with
  | bool b => exact .bool b
  | int k n => exact .int k n
  | str s => exact .str s
  | nilp => exact .nilp
  | nilf => exact .nilf
  | nili => exact .nili
  | emp A => exact .emp A
  | arr e n f A c g hc hA hl ho hr hg ih => exact .arr e n f A c g hc hA hl ho (fun a ha i j hi hj => h1 _ _ (hr a ha i j hi hj)) (fun i j y hi hy => ih i j y hi hy)
  | fptr v r a g hr hg ih => exact .fptr v r a g (fun j hj => h1 _ _ (hr j hj)) (fun j y hy => ih j y hy)
  | own e b off n c hc hs => exact .own e b off n c hc (Nat.le_trans hs (h2 b))
  | optr e b i r => exact .optr e b i r
  | agg cs vs hl hg ih => exact .agg cs vs hl (fun j y c hy hc => ih j y c hy hc)
  | fn f fs cs gs ds hl hl' hg hd ih ih' => exact .fn f fs cs gs ds hl hl' (fun j y c hy hc => ih j y c hy hc) (fun j y c hy hc => ih' j y c hy hc)
  | iface t v c h ih => exact .iface t v c ih
  | tuple cs vs hl hg ih => exact .tuple cs vs hl (fun j y c hy hc => ih j y c hy hc)
  | ubool b => exact .ubool b
  | junk c => exact .junk c

theorem Rep.one {rd : Addr → Option Value} {sz : Nat → Nat} {v : AV} {c : Value} (h : Rep rd sz v c) (h1 : v.one = true) : c.oneCell' = true ∧ c.cells = #[c] ∧ cellsOf v = [v] := by
  cases h <;> first | (simp [AV.one] at h1; done) | exact ⟨rfl, rfl, rfl⟩

/-! ### Blocks, stores, worlds -/
structure Blk where
  ty : TypeId
  e : Nat
  n : Nat
  f : Nat → AV
abbrev St := Nat → Option Blk
def upd (st : St) (b : Nat) (x : Blk) : St := fun c => if c = b then some x else st c
def del (st : St) (b : Nat) : St := fun c => if c = b then none else st c
def rdOf (w : World) (st : St) (a : Addr) : Option Value := match st a.block with | none => w.cell? a | some _ => none
def szOf (w : World) (b : Nat) : Nat := match w.heap[b]? with | some (.cells c _ _) => c.size | _ => 0
abbrev RepW (w : World) (st : St) : AV → Value → Prop := Rep (rdOf w st) (szOf w)

structure BlkOk (w : World) (st : St) (b : Nat) (x : Blk) (cs : Array Value) : Prop where
  heap : w.heap[b]? = some (.cells cs x.ty (0, 0))
  size : x.n * x.e ≤ cs.size
  len : ∀ i, i < x.n → (cellsOf (x.f i)).length = x.e
  one : ∀ i, i < x.n → (cellsOf (x.f i)).all AV.one = true
  cell : ∀ (i j : Nat) (y : AV), i < x.n → (cellsOf (x.f i))[j]? = some y → ∃ c, cs[i * x.e + j]? = some c ∧ RepW w st y c
def RelS (st : St) (w : World) : Prop := ∀ b x, st b = some x → ∃ cs, BlkOk w st b x cs

/-- How a world goes on: what the store did not know is as it was, and stays unknown to it. -/
structure Evo (st : St) (w : World) (st' : St) (w' : World) : Prop where
  os : w'.os = w.os
  tape : w'.tape = w.tape
  output : w'.output = w.output
  size : w.heap.size ≤ w'.heap.size
  blk : ∀ b, b < w.heap.size → st b = none → w'.heap[b]? = w.heap[b]? ∧ st' b = none
  szm : ∀ b, szOf w b ≤ szOf w' b

theorem Evo.refl (st : St) (w : World) : Evo st w st w := ⟨rfl, rfl, rfl, Nat.le_refl _, fun _ _ h => ⟨rfl, h⟩, fun _ => Nat.le_refl _⟩
theorem Evo.trans {s0 s1 s2 : St} {w0 w1 w2 : World} (h : Evo s0 w0 s1 w1) (k : Evo s1 w1 s2 w2) : Evo s0 w0 s2 w2 :=
  ⟨k.os.trans h.os, k.tape.trans h.tape, k.output.trans h.output, Nat.le_trans h.size k.size,
   fun b hb hs => by
    obtain ⟨h1, h2⟩ := h.blk b hb hs
    obtain ⟨k1, k2⟩ := k.blk b (Nat.lt_of_lt_of_le hb h.size) h2
    exact ⟨k1.trans h1, k2⟩,
   fun b => Nat.le_trans (h.szm b) (k.szm b)⟩
theorem cell?_of_heap {w w' : World} {a : Addr} (h : w'.heap[a.block]? = w.heap[a.block]?) : w'.cell? a = w.cell? a := by
  unfold World.cell?; rw [h]
theorem cell?_lt {w : World} {a : Addr} {v : Value} (h : w.cell? a = some v) : a.block < w.heap.size := block_lt_of_cell h
theorem Evo.rd {st st' : St} {w w' : World} (h : Evo st w st' w') (a : Addr) (v : Value) (hr : rdOf w st a = some v) : rdOf w' st' a = some v := by
  unfold rdOf at *
  cases hs : st a.block with
  | some x => rw [hs] at hr; cases hr
  | none =>
    rw [hs] at hr
    obtain ⟨h1, h2⟩ := h.blk a.block (cell?_lt hr) hs
    rw [h2]
    show w'.cell? a = some v
    rw [cell?_of_heap h1]; exact hr
theorem Evo.rep {st st' : St} {w w' : World} (h : Evo st w st' w') {v : AV} {c : Value} (hr : RepW w st v c) : RepW w' st' v c := hr.mono h.rd h.szm

/-- The temporaries. -/
structure RelA (w : World) (st : St) (A : List AV) (a : Act) : Prop where
  len : A.length = a.tmps.size
  at_ : ∀ (i : Nat) (v : AV), A[i]? = some v → ∃ c, a.tmps[i]? = some c ∧ RepW w st v c
  defers : a.defers = []
theorem RelA.evo {st st' : St} {w w' : World} {A : List AV} {a : Act} (h : RelA w st A a) (he : Evo st w st' w') : RelA w' st' A a :=
  ⟨h.len, fun i v hv => by obtain ⟨c, h1, h2⟩ := h.at_ i v hv; exact ⟨c, h1, he.rep h2⟩, h.defers⟩
def putA (A : List AV) (d : Option Tmp) (v : AV) : List AV := match d with | some i => A.set i v | none => A
theorem RelA.put {st : St} {w : World} {A : List AV} {a : Act} (h : RelA w st A a) (d : Option Tmp) {v : AV} {c : Value} (hv : RepW w st v c) : RelA w st (putA A d v) (a.put d c) := by
  cases d with
  | none => exact h
  | some i =>
    refine ⟨by simp [putA, Act.put, h.len], fun j u hu => ?_, h.defers⟩
    simp only [putA, List.getElem?_set] at hu
    simp only [Act.put, Array.getElem?_setIfInBounds]
    by_cases hij : i = j
    · subst hij
      rw [if_pos rfl] at hu
      split at hu
      · rename_i hlt
        simp only [Option.some.injEq] at hu
        subst hu
        have : i < a.tmps.size := by rw [← h.len]; exact hlt
        exact ⟨c, by simp [this], hv⟩
      · cases hu
    · rw [if_neg hij] at hu
      rw [if_neg hij]
      exact h.at_ j u hu

/-- Constants. -/
def avLit : Value → AV
  | .bool b => .bool b
  | .int k n => .int k n
  | .string s => .str s
  | .pointer a => match a with | none => .nilp | some _ => .junk
  | .slice a l c => match a with | none => (match l, c with | 0, 0 => .emp | _, _ => .junk) | some _ => .junk
  | .nilFunc => .nilf
  | .nilIface => .nili
  | .tuple vs => match vs.toList with | [] => .tuple [] | _ :: _ => .junk
  | _ => .junk
def avOf : Value → AV
  | .agg cs => .agg (cs.toList.map avLit)
  | v => avLit v
theorem avLit_rep (rd : Addr → Option Value) (sz : Nat → Nat) (v : Value) : Rep rd sz (avLit v) v := by
  cases v with
  | bool b => exact .bool _
  | int k n => exact .int _ _
  | string s => exact .str _
  | pointer a => cases a with
    | none => exact .nilp
    | some a => exact .junk _
  | slice a l c => cases a with
    | none => cases l with
      | zero => cases c with
        | zero => exact .emp _
        | succ c => exact .junk _
      | succ l => exact .junk _
    | some a => exact .junk _
  | nilFunc => exact .nilf
  | nilIface => exact .nili
  | tuple vs =>
    obtain ⟨l⟩ := vs
    cases l with
    | nil => exact .tuple _ _ rfl (fun j y c h => by simp at h)
    | cons x l => exact .junk _
  | _ => exact .junk _
theorem avOf_rep (rd : Addr → Option Value) (sz : Nat → Nat) (v : Value) : Rep rd sz (avOf v) v := by
  unfold avOf
  split
  · refine .agg _ _ (by simp) fun j y c hy hc => ?_
    simp only [List.getElem?_map, Array.getElem?_toList] at hy
    rw [hc] at hy
    simp only [Option.map_some, Option.some.injEq] at hy
    subst hy
    exact avLit_rep rd sz c
  · exact avLit_rep rd sz v
def ev (A : List AV) : Operand → AV
  | .tmp t => A.getD t .junk
  | .const v => avOf v
  | .global _ => .junk
  | .func f => .fn (.func f) [] []
theorem ev_rep {w : World} {st : St} {A : List AV} {a : Act} (h : RelA w st A a) (x : Operand) : RepW w st (ev A x) (a.eval x) := by
  cases x with
  | tmp t =>
    simp only [ev, Act.eval]
    rw [List.getD_eq_getElem?_getD, Array.getD_eq_getD_getElem?]
    cases hA : A[t]? with
    | none => exact .junk _
    | some v =>
      obtain ⟨c, h1, h2⟩ := h.at_ t v hA
      rw [h1]; exact h2
  | const v => exact avOf_rep _ _ v
  | global g => exact .junk _
  | func f => exact .fn _ _ _ _ _ rfl rfl (fun j y c h => by simp at h) (fun j y c h => by simp at h)
end Go.Ab
/- The abstract machine, part 1: worlds that go on by a new block, a store; what operations on data come to. -/
set_option linter.unusedVariables false
set_option linter.unusedSimpArgs false
namespace Go.Ab
open Go

/-! ### Worlds -/
theorem RelS.lt {st : St} {w : World} (h : RelS st w) {b : Nat} {x : Blk} (hx : st b = some x) : b < w.heap.size := by
  obtain ⟨cs, hb⟩ := h b x hx
  exact (Array.getElem?_eq_some_iff.1 hb.heap).1
theorem RelS.fresh {st : St} {w : World} (h : RelS st w) : st w.heap.size = none := by
  cases hx : st w.heap.size with
  | none => rfl
  | some x => exact absurd (h.lt hx) (Nat.lt_irrefl _)
theorem szOf_lt {w w' : World} (h : ∀ b, b < w.heap.size → w'.heap[b]? = w.heap[b]?) (b : Nat) : szOf w b ≤ szOf w' b := by
  by_cases hb : b < w.heap.size
  · unfold szOf; rw [h b hb]; exact Nat.le_refl _
  · have : szOf w b = 0 := by unfold szOf; rw [Array.getElem?_eq_none (by omega)]
    omega
theorem BlkOk.evo {w w' : World} {st st' : St} {b : Nat} {x : Blk} {cs : Array Value} (h : BlkOk w st b x cs) (he : Evo st w st' w') (hh : w'.heap[b]? = w.heap[b]?) : BlkOk w' st' b x cs :=
  ⟨hh.trans h.heap, h.size, h.len, h.one, fun i j y hi hy => by obtain ⟨c, h1, h2⟩ := h.cell i j y hi hy; exact ⟨c, h1, he.rep h2⟩⟩
/-- Nothing but new blocks (and draws). -/
structure Adds (w w' : World) : Prop where
  os : w'.os = w.os
  tape : w'.tape = w.tape
  output : w'.output = w.output
  size : w.heap.size ≤ w'.heap.size
  blk : ∀ b, b < w.heap.size → w'.heap[b]? = w.heap[b]?
theorem Adds.refl (w : World) : Adds w w := ⟨rfl, rfl, rfl, Nat.le_refl _, fun _ _ => rfl⟩
theorem Adds.trans {a b c : World} (h : Adds a b) (k : Adds b c) : Adds a c :=
  ⟨k.os.trans h.os, k.tape.trans h.tape, k.output.trans h.output, Nat.le_trans h.size k.size, fun x hx => (k.blk x (Nat.lt_of_lt_of_le hx h.size)).trans (h.blk x hx)⟩
theorem Adds.alloc (w : World) (o : Obj) : Adds w (w.alloc o) := ⟨rfl, rfl, rfl, by simp, fun b hb => heap_alloc_old w o b hb⟩
theorem Adds.drew (w : World) : Adds w w.drew := ⟨rfl, rfl, rfl, Nat.le_refl _, fun _ _ => rfl⟩
theorem Adds.evo {w w' : World} (h : Adds w w') (st : St) : Evo st w st w' := ⟨h.os, h.tape, h.output, h.size, fun b hb hs => ⟨h.blk b hb, hs⟩, szOf_lt h.blk⟩
theorem RelS.adds {st : St} {w w' : World} (h : RelS st w) (ha : Adds w w') : RelS st w' := fun b x hx => by
  obtain ⟨cs, hb⟩ := h b x hx
  exact ⟨cs, hb.evo (ha.evo st) (ha.blk b (h.lt hx))⟩
/-- .. one of which the store now knows. -/
theorem Evo.owned {st : St} {w w' : World} (h : RelS st w) (ha : Adds w w') {b : Nat} (hb : w.heap.size ≤ b) (x : Blk) : Evo st w (upd st b x) w' :=
  ⟨ha.os, ha.tape, ha.output, ha.size, fun c hc hs => ⟨ha.blk c hc, by unfold upd; rw [if_neg (by omega)]; exact hs⟩, szOf_lt ha.blk⟩
theorem RelS.owned {st : St} {w w' : World} (h : RelS st w) (ha : Adds w w') {b : Nat} (hb : w.heap.size ≤ b) (x : Blk) (cs : Array Value) (hx : BlkOk w' (upd st b x) b x cs) : RelS (upd st b x) w' := fun c y hy => by
  unfold upd at hy
  split at hy
  · rename_i hc
    subst hc
    cases hy
    exact ⟨cs, hx⟩
  · obtain ⟨ds, hd⟩ := h c y hy
    exact ⟨ds, hd.evo (Evo.owned h ha hb x) (ha.blk c (h.lt hy))⟩
/-- A store into a block that the store knows. -/
theorem szOf_setRow {w : World} {g : Nat} {cs ds : Array Value} {t : TypeId} {fr : Nat × Nat} (hg : w.heap[g]? = some (.cells cs t fr)) (hs : cs.size ≤ ds.size) (b : Nat) : szOf w b ≤ szOf (w.setRow g ds) b := by
  unfold szOf World.setRow
  simp only [Array.getElem?_modify]
  by_cases hb : g = b
  · subst hb; rw [if_pos rfl, hg]; simpa using hs
  · rw [if_neg hb]; exact Nat.le_refl _
theorem heap_setRow_ne {w : World} {g b : Nat} (ds : Array Value) (h : b ≠ g) : (w.setRow g ds).heap[b]? = w.heap[b]? := by
  unfold World.setRow
  simp only [Array.getElem?_modify]
  rw [if_neg (fun e => h e.symm)]
theorem heap_setRow_same {w : World} {g : Nat} {cs ds : Array Value} {t : TypeId} {fr : Nat × Nat} (hg : w.heap[g]? = some (.cells cs t fr)) : (w.setRow g ds).heap[g]? = some (.cells ds t fr) := by
  unfold World.setRow
  simp only [Array.getElem?_modify, if_true, hg, Option.map_some]
theorem Evo.setRow {st : St} {w : World} {g : Nat} {x y : Blk} {cs ds : Array Value} {t : TypeId} {fr : Nat × Nat} (hx : st g = some x) (hg : w.heap[g]? = some (.cells cs t fr)) (hs : cs.size ≤ ds.size) :
    Evo st w (upd st g y) (w.setRow g ds) :=
  ⟨rfl, rfl, rfl, by simp, fun b hb hn => by
    have hne : b ≠ g := fun e => by subst e; rw [hx] at hn; cases hn
    exact ⟨heap_setRow_ne ds hne, by unfold upd; rw [if_neg hne]; exact hn⟩, szOf_setRow hg hs⟩
theorem RelS.setRow {st : St} {w : World} (h : RelS st w) {g : Nat} {x y : Blk} {cs ds : Array Value} {t : TypeId} {fr : Nat × Nat} (hx : st g = some x) (hg : w.heap[g]? = some (.cells cs t fr)) (hs : cs.size ≤ ds.size)
    (hy : BlkOk (w.setRow g ds) (upd st g y) g y ds) : RelS (upd st g y) (w.setRow g ds) := fun c z hz => by
  unfold upd at hz
  split at hz
  · rename_i hc
    subst hc
    cases hz
    exact ⟨ds, hy⟩
  · rename_i hc
    obtain ⟨es, he⟩ := h c z hz
    exact ⟨es, he.evo (Evo.setRow hx hg hs) (heap_setRow_ne ds hc)⟩

/-! ### Types -/
structure TRow where
  desc : TypeDesc
  size : Nat
  bytes : Nat
  zero : Value
  plain : Bool
def TRow.agg (r : TRow) : Bool := match r.desc with | .struct _ => true | .array _ _ => true | _ => false
abbrev Tab := TypeId → Option TRow
def TOk (P : Program) (T : Tab) : Prop := ∀ t r, T t = some r → P.underlying t = some r.desc ∧ ∃ i, P.info? t = some i ∧ i.size = r.size ∧ i.bytes = r.bytes ∧ i.zero = some r.zero
/-- What may be held against another one field by field. -/
def EqOk (P : Program) (T : Tab) : Prop := ∀ t r, T t = some r → r.plain = true → P.stoodInHeld t = false ∧ P.eqGuardType P.depth t = false ∧ ∀ fs, r.desc = .struct fs → ∀ f ∈ fs.toList, f.name ≠ "_"
section
variable {P : Program} {T : Tab} (hT : TOk P T)
include hT
theorem TOk.und {t : TypeId} {r : TRow} (h : T t = some r) (w : World) : (underlying t).run P w = .ok r.desc w := run_underlying (hT t r h).1 w
theorem TOk.info {t : TypeId} {r : TRow} (h : T t = some r) (w : World) : ∃ i, (typeInfo t).run P w = .ok i w ∧ i.size = r.size ∧ i.bytes = r.bytes ∧ i.zero = some r.zero := by
  obtain ⟨_, i, h1, h2⟩ := hT t r h
  exact ⟨i, by simp [typeInfo, h1], h2⟩
theorem TOk.sizeOf {t : TypeId} {r : TRow} (h : T t = some r) (w : World) : (Go.sizeOf t).run P w = .ok r.size w := by
  obtain ⟨i, h1, h2, _⟩ := TOk.info hT h w
  simp [Go.sizeOf, h1, h2]
theorem TOk.zero {t : TypeId} {r : TRow} (h : T t = some r) (w : World) : (zeroValue t).run P w = .ok r.zero w := by
  obtain ⟨i, h1, _, _, h2⟩ := TOk.info hT h w
  simp [zeroValue, h1, h2]
theorem TOk.isAgg {t : TypeId} {r : TRow} (h : T t = some r) (w : World) : (Go.isAgg t).run P w = .ok r.agg w := by
  have := TOk.und hT h w
  simp only [Go.isAgg, Sem.run_bind, this, Result.andThen_ok, TRow.agg]
  cases r.desc <;> rfl
end

/-! ### What follows an operation -/
abbrev KK := AV → St → Prop
def Nxt (st : St) (w : World) (k : KK) (a : Act) (d : Option Tmp) (next : Act → World → Prop) : Prop :=
  ∀ v c st' w', k v st' → RepW w' st' v c → RelS st' w' → Evo st w st' w' → next (a.put d c) w'
theorem Nxt.same {st : St} {w : World} {k : KK} {a : Act} {d : Option Tmp} {next : Act → World → Prop} (h : Nxt st w k a d next) (hS : RelS st w) {v : AV} {c : Value} (hk : k v st) (hv : RepW w st v c) : next (a.put d c) w :=
  h v c st w hk hv hS (Evo.refl _ _)

theorem rdOf_cell {w : World} {st : St} {a : Addr} {v : Value} (h : rdOf w st a = some v) : w.cell? a = some v := by
  unfold rdOf at h
  split at h
  · exact h
  · cases h

/-! ### load -/
def pick (r : TRow) (cs : List AV) (o : Nat) (k : AV → Prop) : Prop :=
  match r.agg with
  | true => o + r.size ≤ cs.length ∧ k (.agg ((cs.drop o).take r.size))
  | false => match cs[o]? with | some y => k y | none => False
def aLoad (T : Tab) (t : TypeId) (p : AV) (st : St) (k : KK) : Prop :=
  match T t with
  | none => False
  | some r =>
    match p with
    | .fptr v o => pick r (cellsOf v) o (fun y => k y st)
    | .optr e b i o => match st b with
      | some x => e = x.e ∧ i < x.n ∧ pick r (cellsOf (x.f i)) o (fun y => k y st)
      | none => False
    | _ => False
theorem run_loadVar_at {P : Program} {T : Tab} (hT : TOk P T) {t : TypeId} {r : TRow} (ht : T t = some r) {w : World} {st : St} {cs : List AV} {o : Nat} {a : Addr} {k : AV → Prop}
    (hc : ∀ j y, cs[j]? = some y → ∃ c, w.cell? (a.add j) = some c ∧ RepW w st y c) (h : pick r cs o k) :
    ∃ y c, k y ∧ RepW w st y c ∧ (loadVar t (a.add o)).run P w = .ok c w := by
  unfold pick at h
  have hag := TOk.isAgg hT ht w
  cases hagg : r.agg with
  | true =>
    rw [hagg] at h
    obtain ⟨hlen, hk⟩ := h
    have hex : ∀ j, ∃ c, j < r.size → w.cell? ((a.add o).add j) = some c ∧ ∀ y, cs[o + j]? = some y → RepW w st y c := by
      intro j
      by_cases hj : j < r.size
      · obtain ⟨c, h1, h2⟩ := hc (o + j) cs[o + j] (List.getElem?_eq_getElem (by omega))
        refine ⟨c, fun _ => ⟨by rw [← h1]; congr 1; unfold Addr.add; split <;> split <;> split <;> simp_all <;> omega, fun y hy => ?_⟩⟩
        rw [List.getElem?_eq_getElem (by omega)] at hy
        cases hy; exact h2
      · exact ⟨undef, fun h => absurd h hj⟩
    obtain ⟨g, hg⟩ := Classical.axiomOfChoice hex
    have hload := run_loadCells (P := P) (w := w) (a.add o) r.size g (fun j hj => (hg j hj).1)
    refine ⟨_, _, hk, ?_, by simp only [loadVar, Sem.run_bind, hag, hagg, Result.andThen_ok, if_true, TOk.sizeOf hT ht w, hload, Sem.run_map]; rfl⟩
    refine .agg _ _ (by simp; omega) fun j y c hy hcj => ?_
    have hj : j < r.size := by
      rcases Nat.lt_or_ge j r.size with h | h
      · exact h
      · rw [List.getElem?_take, if_neg (by omega)] at hy; cases hy
    rw [List.getElem?_take_of_lt hj, List.getElem?_drop] at hy
    simp [hj] at hcj
    subst hcj
    exact (hg j hj).2 y hy
  | false =>
    rw [hagg] at h
    cases hy : cs[o]? with
    | none => rw [hy] at h; exact h.elim
    | some y =>
      rw [hy] at h
      obtain ⟨c, h1, h2⟩ := hc o y hy
      exact ⟨y, c, h, h2, by simp only [loadVar, Sem.run_bind, hag, hagg, Result.andThen_ok, Bool.false_eq_true, if_false, run_load, h1]⟩
theorem so_load {P : Program} {T : Tab} (hT : TOk P T) {o : Oper} {A : List AV} {a : Act} {st : St} {w : World} {t : TypeId} {x : Operand} {k : KK} {next : Act → World → Prop} {Q : Exit → Act → World → Prop}
    (ho : o.op = .load t x) (hA : RelA w st A a) (hS : RelS st w) (h : aLoad T t (ev A x) st k) (hn : Nxt st w k a o.dst next) : o.wp P a w next Q := by
  unfold aLoad at h
  cases hr : T t with
  | none => rw [hr] at h; exact h.elim
  | some r =>
    rw [hr] at h
    have hx := ev_rep hA x
    suffices hmain : ∃ y c, k y st ∧ RepW w st y c ∧ (Instr.loadAt t (a.eval x)).run P w = .ok c w by
      obtain ⟨y, c, hk, hy, hrun⟩ := hmain
      unfold Oper.wp
      simp only [execOp, ho, Sem.run_bind, hrun, Result.andThen_ok, Sem.run_pure, Oper.upon]
      exact hn.same hS hk hy
    generalize a.eval x = p at hx
    generalize ev A x = q at h hx
    cases hx with
    | fptr v off ad g hr' hg' =>
      obtain ⟨y, c, hk, hy, hrun⟩ := run_loadVar_at hT hr (w := w) (st := st) (a := ad) (fun j y hy => ⟨g j, rdOf_cell (hr' j (List.getElem?_eq_some_iff.1 hy).1), hg' j y hy⟩) h
      exact ⟨y, c, hk, hy, by simp only [Instr.loadAt, Instr.sureAddr, Sem.run_bind, Sem.run_pure, Result.andThen_ok, hrun]⟩
    | optr e b i off =>
      simp only at h
      cases hb : st b with
      | none => rw [hb] at h; exact h.elim
      | some bk =>
        rw [hb] at h
        obtain ⟨he, hi, h⟩ := h
        obtain ⟨cs, hok⟩ := hS b bk hb
        obtain ⟨y, c, hk, hy, hrun⟩ := run_loadVar_at hT hr (w := w) (st := st) (a := ⟨b, i * e, none⟩) (o := off) (fun j y hy => by
          obtain ⟨c, h1, h2⟩ := hok.cell i j y hi hy
          refine ⟨c, ?_, h2⟩
          rw [Addr.add_lit, cell_of_row w b _ cs bk.ty (0, 0) hok.heap, he]; exact h1) h
        refine ⟨y, c, hk, hy, ?_⟩
        rw [Addr.add_lit] at hrun
        simp only [Instr.loadAt, Instr.sureAddr, Sem.run_bind, Sem.run_pure, Result.andThen_ok, hrun]
    | _ => exact h.elim
end Go.Ab
/- The abstract machine, part 2: stores, addresses, new variables, slices. -/
set_option linter.unusedVariables false
set_option linter.unusedSimpArgs false
namespace Go.Ab
open Go

theorem rep_undef (rd : Addr → Option Value) (sz : Nat → Nat) : Rep rd sz (.tuple []) undef := .tuple [] #[] rfl (fun j y c h => by simp at h)

/-! ### store -/
def setCells (v : AV) (r : Nat) (cs : List AV) : AV :=
  match v with
  | .agg ds => .agg (ds.take r ++ cs ++ ds.drop (r + cs.length))
  | _ => cs.headD .junk
def fset (f : Nat → AV) (i : Nat) (v : AV) : Nat → AV := fun j => if j = i then v else f j
def aStore (T : Tab) (t : TypeId) (p v : AV) (st : St) (k : KK) : Prop :=
  match T t with
  | none => False
  | some r =>
    match p with
    | .optr e b i o => match st b with
      | some x => e = x.e ∧ i < x.n ∧ (cellsOf v).length = r.size ∧ (cellsOf v).all AV.one = true ∧ o + r.size ≤ x.e ∧ k (.tuple []) (upd st b { x with f := fset x.f i (setCells (x.f i) o (cellsOf v)) })
      | none => False
    | _ => False
theorem setCells_cells {v : AV} {r : Nat} {cs : List AV} (h : r + cs.length ≤ (cellsOf v).length) (h1 : cs.all AV.one = true) (h2 : 0 < cs.length) :
    cellsOf (setCells v r cs) = (cellsOf v).take r ++ cs ++ (cellsOf v).drop (r + cs.length) := by
  have single : (cellsOf v).length = 1 → cellsOf (cs.headD .junk) = (cellsOf v).take r ++ cs ++ (cellsOf v).drop (r + cs.length) := fun hv => by
    have hr : r = 0 := by omega
    have hc : cs.length = 1 := by omega
    obtain ⟨c, rfl⟩ := List.length_eq_one_iff.1 hc
    subst hr
    have : c.one = true := by simpa using h1
    rw [List.drop_eq_nil_of_le (by simp [hv])]
    cases c <;> simp_all [cellsOf, AV.one]
  cases v <;> first | rfl | (simp only [setCells]; exact single rfl) | (simp [cellsOf] at h; simp [h] at h2)
theorem one_cells {w : World} {st : St} {v : AV} {c : Value} (h : RepW w st v c) (h1 : (cellsOf v).all AV.one = true) (h2 : 0 < (cellsOf v).length) :
    c.cells.size = (cellsOf v).length ∧ (∀ u ∈ c.cells.toList, u.oneCell' = true) ∧ ∀ (j : Nat) (y : AV), (cellsOf v)[j]? = some y → ∃ u, c.cells[j]? = some u ∧ RepW w st y u := by
  by_cases hv : v.one = true
  · obtain ⟨e1, e2, e3⟩ := h.one hv
    rw [e2, e3]
    refine ⟨rfl, by simp [e1], fun j y hy => ?_⟩
    cases j with
    | zero => simp at hy; subst hy; exact ⟨c, by simp, h⟩
    | succ j => simp at hy
  · cases h with
    | agg cs vs hl hg =>
      refine ⟨hl.symm, fun u hu => ?_, fun j y hy => ?_⟩
      · obtain ⟨j, hj, rfl⟩ := List.getElem_of_mem hu
        have hj' : j < cs.length := by rw [hl]; simpa [Value.cells] using hj
        have hone : (cs[j]).one = true := by
          simp only [cellsOf, List.all_eq_true] at h1
          exact h1 _ (List.getElem_mem hj')
        exact (Rep.one (hg j cs[j] _ (List.getElem?_eq_getElem hj') (by simp [Value.cells])) hone).1
      · have hj : j < vs.size := by rw [← hl]; exact (List.getElem?_eq_some_iff.1 hy).1
        exact ⟨vs[j], Array.getElem?_eq_getElem hj, hg j y _ hy (Array.getElem?_eq_getElem hj)⟩
    | tuple cs vs hl hg => simp [cellsOf] at h2
    | junk c => simp [cellsOf] at h2
    | _ => exact absurd rfl hv
theorem mul_add_lt {i n e o : Nat} (hi : i < n) (ho : o < e) : i * e + o < n * e := by
  have : (i + 1) * e ≤ n * e := Nat.mul_le_mul_right _ hi
  rw [Nat.add_mul] at this; omega
theorem off_ne {i i' e o o' : Nat} (ho : o < e) (ho' : o' < e) (h : i * e + o = i' * e + o') : i = i' ∧ o = o' := by
  have h1 : (i * e + o) / e = i := by rw [Nat.mul_comm, Nat.mul_add_div (by omega), Nat.div_eq_of_lt ho]; omega
  have h2 : (i' * e + o') / e = i' := by rw [Nat.mul_comm, Nat.mul_add_div (by omega), Nat.div_eq_of_lt ho']; omega
  have : i = i' := by rw [← h1, ← h2, h]
  subst this; exact ⟨rfl, by omega⟩
theorem BlkOk.store {w : World} {st : St} {b i o : Nat} {x : Blk} {cs : Array Value} {vs : List AV} {us : List Value} (hok : BlkOk w st b x cs) (hb : st b = some x) (hi : i < x.n) (hlen : o + vs.length ≤ x.e)
    (h1 : vs.all AV.one = true) (h0 : 0 < vs.length) (hus : us.length = vs.length) (hv : ∀ (j : Nat) (y : AV), vs[j]? = some y → ∃ u, us[j]? = some u ∧ RepW w st y u) :
    BlkOk (w.setRow b (cs.toList.take (i * x.e + o) ++ us ++ cs.toList.drop (i * x.e + o + us.length)).toArray) (upd st b { x with f := fset x.f i (setCells (x.f i) o vs) }) b { x with f := fset x.f i (setCells (x.f i) o vs) }
      (cs.toList.take (i * x.e + o) ++ us ++ cs.toList.drop (i * x.e + o + us.length)).toArray := by
  have hroom : i * x.e + o + us.length ≤ cs.size := by
    have := hok.size
    have h2 : (i + 1) * x.e ≤ x.n * x.e := Nat.mul_le_mul_right _ hi
    rw [Nat.add_mul] at h2; omega
  have hsz : (cs.toList.take (i * x.e + o) ++ us ++ cs.toList.drop (i * x.e + o + us.length)).length = cs.size := by simp; omega
  have hevo : Evo st w (upd st b { x with f := fset x.f i (setCells (x.f i) o vs) }) (w.setRow b (cs.toList.take (i * x.e + o) ++ us ++ cs.toList.drop (i * x.e + o + us.length)).toArray) :=
    Evo.setRow hb hok.heap (by simp; omega)
  have hlv := hok.len i hi
  have hcells := setCells_cells (v := x.f i) (r := o) (cs := vs) (by rw [hlv]; exact hlen) h1 h0
  refine ⟨heap_setRow_same hok.heap, by simp only [List.size_toArray, hsz]; exact hok.size, fun i' hi' => ?_, fun i' hi' => ?_, fun i' j y hi' hy => ?_⟩
  · simp only [fset]
    split
    · rename_i he; subst he; rw [hcells]; simp; omega
    · exact hok.len i' hi'
  · simp only [fset]
    split
    · rename_i he; subst he; rw [hcells]
      have hone := hok.one i' hi'
      simp only [List.all_eq_true] at hone h1 ⊢
      intro z hz
      simp only [List.mem_append] at hz
      rcases hz with (hz | hz) | hz
      · exact hone _ (List.mem_of_mem_take hz)
      · exact h1 _ hz
      · exact hone _ (List.mem_of_mem_drop hz)
    · exact hok.one i' hi'
  · simp only [List.getElem?_toArray]
    have hj : j < x.e := by
      have h3 : j < (cellsOf (fset x.f i (setCells (x.f i) o vs) i')).length := (List.getElem?_eq_some_iff.1 hy).1
      have : (cellsOf (fset x.f i (setCells (x.f i) o vs) i')).length = x.e := by
        simp only [fset]
        split
        · rename_i he; subst he; rw [hcells]; simp; omega
        · exact hok.len i' hi'
      omega
    have hpos := mul_add_lt hi' hj
    have hold : ∀ y, (cellsOf (x.f i'))[j]? = some y → (i' = i → j < o ∨ o + vs.length ≤ j) → ∃ c, (cs.toList.take (i * x.e + o) ++ us ++ cs.toList.drop (i * x.e + o + us.length))[i' * x.e + j]? = some c ∧
        RepW (w.setRow b (cs.toList.take (i * x.e + o) ++ us ++ cs.toList.drop (i * x.e + o + us.length)).toArray) (upd st b { x with f := fset x.f i (setCells (x.f i) o vs) }) y c := fun y hy hout => by
      obtain ⟨c, hc1, hc2⟩ := hok.cell i' j y hi' hy
      refine ⟨c, ?_, hevo.rep hc2⟩
      rw [← hc1]
      rcases Nat.lt_or_ge (i' * x.e + j) (i * x.e + o) with hlt | hge
      · rw [List.append_assoc, List.getElem?_append_left (by simp; omega), List.getElem?_take_of_lt hlt, Array.getElem?_toList]
      · rcases Nat.lt_or_ge (i' * x.e + j) (i * x.e + o + us.length) with hlt2 | hge2
        · exfalso
          have : i' * x.e + j = i * x.e + (o + (i' * x.e + j - (i * x.e + o))) := by omega
          obtain ⟨e1, e2⟩ := off_ne hj (by omega) this
          have := hout e1; omega
        · rw [List.getElem?_append_right (by simp; omega), List.getElem?_drop]
          rw [← Array.getElem?_toList]; congr 1; simp; omega
    simp only [fset] at hy
    split at hy
    · rename_i he
      subst he
      rw [hcells] at hy
      rcases Nat.lt_or_ge j o with hjo | hjo
      · refine hold y ?_ (fun _ => .inl hjo)
        rw [List.append_assoc, List.getElem?_append_left (by simp; omega), List.getElem?_take_of_lt hjo] at hy
        exact hy
      · rcases Nat.lt_or_ge j (o + vs.length) with hjv | hjv
        · rw [List.append_assoc, List.getElem?_append_right (by simp; omega), List.getElem?_append_left (by simp; omega)] at hy
          obtain ⟨u, hu1, hu2⟩ := hv _ y hy
          refine ⟨u, ?_, hevo.rep hu2⟩
          rw [List.append_assoc, List.getElem?_append_right (by simp; omega), List.getElem?_append_left (by simp; omega), ← hu1]
          congr 1; simp; omega
        · refine hold y ?_ (fun _ => .inr hjv)
          rw [List.getElem?_append_right (by simp; omega), List.getElem?_drop] at hy
          rw [← hy]; congr 1; simp; omega
    · rename_i he
      exact hold y hy (fun e => absurd e he)
theorem so_store {P : Program} {T : Tab} (hT : TOk P T) {o : Oper} {A : List AV} {a : Act} {st : St} {w : World} {t : TypeId} {x y : Operand} {k : KK} {next : Act → World → Prop} {Q : Exit → Act → World → Prop}
    (ho : o.op = .store t x y) (hA : RelA w st A a) (hS : RelS st w) (h : aStore T t (ev A x) (ev A y) st k) (hz : ∀ r, T t = some r → 0 < r.size) (hn : Nxt st w k a o.dst next) : o.wp P a w next Q := by
  unfold aStore at h
  cases hr : T t with
  | none => rw [hr] at h; exact h.elim
  | some r =>
    rw [hr] at h
    have hr0 := hz r hr
    have hx := ev_rep hA x
    have hy := ev_rep hA y
    generalize hp : a.eval x = p at hx
    generalize hu : a.eval y = u at hy
    generalize ev A x = q at h hx
    generalize ev A y = v at h hy
    cases hx with
    | optr e b i off =>
      simp only at h
      cases hb : st b with
      | none => rw [hb] at h; exact h.elim
      | some bk =>
        rw [hb] at h
        obtain ⟨he, hi, hlen, hall, hfit, hk⟩ := h
        obtain ⟨cs, hok⟩ := hS b bk hb
        obtain ⟨u1, u2, u3⟩ := one_cells hy hall (by omega)
        have hroom : i * bk.e + off + u.cells.toList.length ≤ cs.size := by
          have := hok.size
          have h2 : (i + 1) * bk.e ≤ bk.n * bk.e := Nat.mul_le_mul_right _ hi
          rw [Nat.add_mul] at h2; simp; omega
        have hst := run_storeCells_at (P := P) b (i * bk.e + off) bk.ty u.cells.toList 0 cs w hok.heap (by simpa using hroom) u2
        have hnew := hok.store (us := u.cells.toList) hb hi (by rw [hlen]; exact hfit) hall (by omega) (by simp [u1]) (fun j y hy => by simpa using u3 j y hy)
        have hsz : cs.size ≤ (cs.toList.take (i * bk.e + off) ++ u.cells.toList ++ cs.toList.drop (i * bk.e + off + u.cells.toList.length)).toArray.size := by simp at hroom ⊢; omega
        unfold Oper.wp
        have hrun : (Instr.storeAt t (.pointer (some ⟨b, i * e + off, none⟩)) u).run P w = .ok () (w.setRow b (cs.toList.take (i * bk.e + off) ++ u.cells.toList ++ cs.toList.drop (i * bk.e + off + u.cells.toList.length)).toArray) := by
          have hsz2 : u.cells.size = r.size := by rw [u1, hlen]
          simp only [Nat.add_zero] at hst
          simp only [Instr.storeAt, Instr.sureAddr, storeVar, Sem.run_bind, Sem.run_pure, Result.andThen_ok, TOk.sizeOf hT hr w, hsz2, ne_eq, not_true_eq_false, if_false]
          rw [he]; exact hst
        simp only [execOp, ho, Sem.run_bind, hp, hu, hrun, Result.andThen_ok, Sem.run_pure, Oper.upon]
        exact hn _ _ _ _ hk (rep_undef _ _) (hS.setRow hb hok.heap hsz hnew) (Evo.setRow hb hok.heap hsz)
    | _ => exact h.elim
end Go.Ab
/- The abstract machine, part 3: operations that only reckon. -/
set_option linter.unusedVariables false
set_option linter.unusedSimpArgs false
namespace Go.Ab
open Go

theorem add_add (a : Addr) (x y : Nat) : (a.add x).add y = a.add (x + y) := by
  unfold Addr.add
  by_cases hx : x = 0 <;> by_cases hy : y = 0 <;> simp [hx, hy, Nat.add_assoc]
theorem so_pure {P : Program} {o : Oper} {a : Act} {st : St} {w : World} {k : KK} {next : Act → World → Prop} {Q : Exit → Act → World → Prop} {c : Value} {v : AV}
    (hrun : (execOp a.eval o).run P w = .ok (.value c) w) (hS : RelS st w) (hv : RepW w st v c) (hk : k v st) (hn : Nxt st w k a o.dst next) : o.wp P a w next Q := by
  unfold Oper.wp; rw [hrun]; exact hn.same hS hk hv

/-! ### addresses -/
def aFieldAddr (T : Tab) (s : TypeId) (p : AV) (f : Nat) (k : AV → Prop) : Prop :=
  match T s with
  | none => False
  | some r => match r.desc with
    | .struct fs => match fs[f]? with
      | none => False
      | some fl => match T fl.type with
        | none => False
        | some q => 0 < q.size ∧ match p with
          | .fptr v o => k (.fptr v (o + fl.offset))
          | .optr e b i o => k (.optr e b i (o + fl.offset))
          | _ => False
    | _ => False
theorem so_fieldAddr {P : Program} {T : Tab} (hT : TOk P T) {o : Oper} {A : List AV} {a : Act} {st : St} {w : World} {s : TypeId} {x : Operand} {f : Nat} {k : KK} {next : Act → World → Prop} {Q : Exit → Act → World → Prop}
    (ho : o.op = .fieldAddr s x f) (hA : RelA w st A a) (hS : RelS st w) (h : aFieldAddr T s (ev A x) f (fun v => k v st)) (hn : Nxt st w k a o.dst next) : o.wp P a w next Q := by
  unfold aFieldAddr at h
  split at h
  · exact h.elim
  rename_i r hr
  split at h
  case h_2 => exact h.elim
  rename_i fs hd
  split at h
  · exact h.elim
  rename_i fl hf
  split at h
  · exact h.elim
  rename_i q hq
  obtain ⟨hq0, h⟩ := h
  have hx := ev_rep hA x
  have hund := TOk.und hT hr w
  have hsz := TOk.sizeOf hT hq w
  rw [hd] at hund
  suffices hmain : ∃ ad v, a.eval x = .pointer (some ad) ∧ k v st ∧ RepW w st v (.pointer (some (ad.add fl.offset))) by
    obtain ⟨ad, v, h1, h2, h3⟩ := hmain
    refine so_pure (c := .pointer (some (ad.add fl.offset))) ?_ hS h3 h2 hn
    simp only [execOp, ho, h1, Instr.fieldAt, Sem.run_bind, hund, Result.andThen_ok, hf, Instr.sureAddr, Sem.run_pure, fieldPlace, hsz, if_neg (by omega : ¬ q.size = 0)]
  generalize a.eval x = p at hx
  generalize ev A x = v at h hx
  cases hx with
  | fptr v o ad g hr' hg' => exact ⟨ad.add o, _, rfl, h, by rw [add_add]; exact .fptr v _ ad g hr' hg'⟩
  | optr e b i o => exact ⟨_, _, rfl, h, by rw [Addr.add_lit, Nat.add_assoc]; exact .optr e b i _⟩
  | _ => exact h.elim
def aIndexAddr (T : Tab) (t : TypeId) (p i : AV) (k : AV → Prop) : Prop :=
  match T t with
  | none => False
  | some r => match r.desc with
    | .slice el => match T el with
      | none => False
      | some q => match i with
        | .int _ j => match p with
          | .arr e n f => q.size = e ∧ (0 ≤ j ∧ j < n) ∧ k (.fptr (f j.toNat) 0)
          | .own e b off n => q.size = e ∧ (0 ≤ j ∧ j < n) ∧ k (.optr e b (off + j.toNat) 0)
          | _ => False
        | _ => False
    | .array n el => match T el with
      | none => False
      | some q => match i with
        | .int _ j => (0 ≤ j ∧ j < n) ∧ match p with
          | .fptr v o => k (.fptr v (o + j.toNat * q.size))
          | .optr e b i o => k (.optr e b i (o + j.toNat * q.size))
          | _ => False
        | _ => False
    | _ => False
theorem so_indexAddr {P : Program} {T : Tab} (hT : TOk P T) {o : Oper} {A : List AV} {a : Act} {st : St} {w : World} {t : TypeId} {x i : Operand} {k : KK} {next : Act → World → Prop} {Q : Exit → Act → World → Prop}
    (ho : o.op = .indexAddr t x i) (hA : RelA w st A a) (hS : RelS st w) (h : aIndexAddr T t (ev A x) (ev A i) (fun v => k v st)) (hn : Nxt st w k a o.dst next) : o.wp P a w next Q := by
  unfold aIndexAddr at h
  split at h
  · exact h.elim
  rename_i r hr
  have hund := TOk.und hT hr w
  have hx := ev_rep hA x
  have hi := ev_rep hA i
  split at h
  case h_3 => exact h.elim
  · rename_i el hd
    rw [hd] at hund
    split at h
    · exact h.elim
    rename_i q hq
    have hsz := TOk.sizeOf hT hq w
    split at h
    case h_2 => exact h.elim
    rename_i kk j hij
    rw [hij] at hi
    generalize hiv : a.eval i = iv at hi
    cases hi
    suffices hmain : ∃ ad v n c, a.eval x = .slice (some ad) n c ∧ (0 ≤ j ∧ j < (n : Int)) ∧ k v st ∧ RepW w st v (.pointer (some (ad.add (j.toNat * q.size)))) by
      obtain ⟨ad, v, n, c, h1, hb, h2, h3⟩ := hmain
      refine so_pure (c := .pointer (some (ad.add (j.toNat * q.size)))) ?_ hS h3 h2 hn
      simp only [execOp, ho, h1, hiv, Instr.indexAt, asIntOf, Sem.run_bind, hund, Result.andThen_ok, Sem.run_pure]
      rw [if_pos hb]
      simp only [Sem.run_bind, hsz, Result.andThen_ok, Sem.run_pure]
    generalize a.eval x = p at hx
    generalize ev A x = v at h hx
    cases hx with
    | arr e n f Ad c g hc hAd hl ho' hr' hg' =>
      obtain ⟨he, hb, hk⟩ := h
      obtain ⟨ad, rfl⟩ := hAd (by omega)
      have hj : j.toNat < n := by omega
      refine ⟨ad, _, n, c, rfl, hb, hk, ?_⟩
      have : ad.add (j.toNat * q.size) = (ad.add (j.toNat * e)).add 0 := by rw [add_add, he, Nat.add_zero]
      rw [this]
      refine .fptr _ 0 _ (g j.toNat) (fun y hy => ?_) (fun y z hz => hg' _ _ _ hj hz)
      rw [add_add]; exact hr' ad rfl _ _ hj (by rw [hl _ hj] at hy; exact hy)
    | own e b off n c hc hs =>
      obtain ⟨he, hb, hk⟩ := h
      refine ⟨_, _, n, c, rfl, hb, hk, ?_⟩
      rw [Addr.add_lit, he, ← Nat.add_mul, ← Nat.add_zero ((off + j.toNat) * e)]
      exact .optr e b _ 0
    | _ => exact h.elim
  · rename_i n el hd
    rw [hd] at hund
    split at h
    · exact h.elim
    rename_i q hq
    have hsz := TOk.sizeOf hT hq w
    split at h
    case h_2 => exact h.elim
    rename_i kk j hij
    obtain ⟨hb, h⟩ := h
    rw [hij] at hi
    generalize hiv : a.eval i = iv at hi
    cases hi
    suffices hmain : ∃ ad v, a.eval x = .pointer (some ad) ∧ k v st ∧ RepW w st v (.pointer (some (ad.add (j.toNat * q.size)))) by
      obtain ⟨ad, v, h1, h2, h3⟩ := hmain
      refine so_pure (c := .pointer (some (ad.add (j.toNat * q.size)))) ?_ hS h3 h2 hn
      simp only [execOp, ho, h1, hiv, Instr.indexAt, asIntOf, Sem.run_bind, hund, Result.andThen_ok, Sem.run_pure, Instr.sureAddr]
      rw [if_pos hb]
      simp only [Sem.run_bind, hsz, Result.andThen_ok, Sem.run_pure]
    generalize a.eval x = p at hx
    generalize ev A x = v at h hx
    cases hx with
    | fptr v o ad g hr' hg' => exact ⟨ad.add o, _, rfl, h, by rw [add_add]; exact .fptr v _ ad g hr' hg'⟩
    | optr e b i o => exact ⟨_, _, rfl, h, by rw [Addr.add_lit, Nat.add_assoc]; exact .optr e b i _⟩
    | _ => exact h.elim

/-! ### parts of values -/
def aField (T : Tab) (s : TypeId) (v : AV) (f : Nat) (k : AV → Prop) : Prop :=
  match T s with
  | none => False
  | some r => match r.desc with
    | .struct fs => match fs[f]? with
      | none => False
      | some fl => match T fl.type with
        | none => False
        | some q => match v with
          | .agg cs => pick q cs fl.offset k
          | _ => False
    | _ => False
theorem so_field {P : Program} {T : Tab} (hT : TOk P T) {o : Oper} {A : List AV} {a : Act} {st : St} {w : World} {s : TypeId} {x : Operand} {f : Nat} {k : KK} {next : Act → World → Prop} {Q : Exit → Act → World → Prop}
    (ho : o.op = .field s x f) (hA : RelA w st A a) (hS : RelS st w) (h : aField T s (ev A x) f (fun v => k v st)) (hn : Nxt st w k a o.dst next) : o.wp P a w next Q := by
  unfold aField at h
  split at h
  · exact h.elim
  rename_i r hr
  split at h
  case h_2 => exact h.elim
  rename_i fs hd
  split at h
  · exact h.elim
  rename_i fl hf
  split at h
  · exact h.elim
  rename_i q hq
  have hx := ev_rep hA x
  have hund := TOk.und hT hr w
  rw [hd] at hund
  have hag := TOk.isAgg hT hq w
  have hsz := TOk.sizeOf hT hq w
  split at h
  case h_2 => exact h.elim
  rename_i cs hcs
  rw [hcs] at hx
  generalize hxv : a.eval x = xv at hx
  cases hx with
  | agg cs vs hl hg =>
    unfold pick at h
    cases hagg : q.agg with
    | true =>
      rw [hagg] at h
      obtain ⟨hlen, hk⟩ := h
      refine so_pure (c := .agg (vs.extract fl.offset (fl.offset + q.size))) (v := .agg ((cs.drop fl.offset).take q.size)) ?_ hS ?_ hk hn
      · simp only [execOp, ho, hxv, Instr.field, Sem.run_bind, hund, Result.andThen_ok, hf, asAgg, Sem.run_pure, part, hag, hagg, if_true, hsz]
      · refine .agg _ _ (by simp; omega) fun j y c hy hc => ?_
        have hj : j < q.size := by
          rcases Nat.lt_or_ge j q.size with h | h
          · exact h
          · rw [List.getElem?_take, if_neg (by omega)] at hy; cases hy
        rw [List.getElem?_take_of_lt hj, List.getElem?_drop] at hy
        refine hg (fl.offset + j) y c hy ?_
        rw [← hc, Array.getElem?_extract]
        have := (List.getElem?_eq_some_iff.1 hy).1
        rw [if_pos (by omega)]
    | false =>
      rw [hagg] at h
      cases hy : cs[fl.offset]? with
      | none => rw [hy] at h; exact h.elim
      | some y =>
        rw [hy] at h
        have hlt : fl.offset < vs.size := by rw [← hl]; exact (List.getElem?_eq_some_iff.1 hy).1
        refine so_pure (c := vs[fl.offset]) (v := y) ?_ hS (hg _ _ _ hy (Array.getElem?_eq_getElem hlt)) h hn
        simp only [execOp, ho, hxv, Instr.field, Sem.run_bind, hund, Result.andThen_ok, hf, asAgg, Sem.run_pure, part, hag, hagg, Bool.false_eq_true, if_false, Array.getElem?_eq_getElem hlt]
def aExtract (v : AV) (i : Nat) (k : AV → Prop) : Prop :=
  match v with
  | .tuple vs => match vs[i]? with | some y => k y | none => False
  | _ => False
theorem so_extract {P : Program} {o : Oper} {A : List AV} {a : Act} {st : St} {w : World} {x : Operand} {i : Nat} {k : KK} {next : Act → World → Prop} {Q : Exit → Act → World → Prop}
    (ho : o.op = .extract x i) (hA : RelA w st A a) (hS : RelS st w) (h : aExtract (ev A x) i (fun v => k v st)) (hn : Nxt st w k a o.dst next) : o.wp P a w next Q := by
  unfold aExtract at h
  split at h
  case h_2 => exact h.elim
  rename_i vs hvs
  split at h
  case h_2 => exact h.elim
  rename_i y hy
  have hx := ev_rep hA x
  rw [hvs] at hx
  generalize hxv : a.eval x = xv at hx
  cases hx with
  | tuple cs us hl hg =>
    have hlt : i < us.size := by rw [← hl]; exact (List.getElem?_eq_some_iff.1 hy).1
    refine so_pure (c := us[i]) (v := y) ?_ hS (hg _ _ _ hy (Array.getElem?_eq_getElem hlt)) h hn
    simp only [execOp, ho, hxv, Instr.extract, Sem.run_bind, Array.getElem?_eq_getElem hlt, Sem.run_pure, Result.andThen_ok]
def aIndex (T : Tab) (t : TypeId) (v i : AV) (k : AV → Prop) : Prop :=
  match T t with
  | none => False
  | some r => match r.desc, v, i with
    | .string, .str s, .int _ j => ∃ h : 0 ≤ j ∧ j.toNat < s.size, k (.int .u8 ((s[j.toNat]'h.2).toNat : Int))
    | _, _, _ => False
theorem so_index {P : Program} {T : Tab} (hT : TOk P T) {o : Oper} {A : List AV} {a : Act} {st : St} {w : World} {t : TypeId} {x i : Operand} {k : KK} {next : Act → World → Prop} {Q : Exit → Act → World → Prop}
    (ho : o.op = .index t x i) (hA : RelA w st A a) (hS : RelS st w) (h : aIndex T t (ev A x) (ev A i) (fun v => k v st)) (hn : Nxt st w k a o.dst next) : o.wp P a w next Q := by
  unfold aIndex at h
  split at h
  · exact h.elim
  rename_i r hr
  have hund := TOk.und hT hr w
  have hx := ev_rep hA x
  have hi := ev_rep hA i
  split at h
  case h_2 => exact h.elim
  rename_i s kk j hd hv hij
  obtain ⟨⟨h0, h1⟩, hk⟩ := h
  rw [hd] at hund
  rw [hv] at hx
  rw [hij] at hi
  generalize hxv : a.eval x = xv at hx
  generalize hiv : a.eval i = iv at hi
  cases hx
  cases hi
  refine so_pure ?_ hS (.int .u8 _) hk hn
  simp only [execOp, ho, hxv, hiv, Instr.index, asIntOf, Sem.run_bind, Sem.run_pure, Result.andThen_ok, hund, h0, if_true]
  rw [show s[j.toNat]? = some (s[j.toNat]'h1) from by simp [h1]]
  rfl
end Go.Ab
/- The abstract machine, part 4: arithmetic, comparisons, conversions, function values, interface values. -/
set_option linter.unusedVariables false
set_option linter.unusedSimpArgs false
namespace Go.Ab
open Go

/-! ### arithmetic and comparisons -/
def aInt (op : BinOp) (k : IntKind) (x y : Int) : Option AV :=
  match op with
  | .add => some (.int k (k.wrap (x + y)))
  | .sub => some (.int k (k.wrap (x - y)))
  | .mul => some (.int k (k.wrap (x * y)))
  | .quo => if y = 0 then none else some (.int k (k.wrap (x.tdiv y)))
  | .rem => if y = 0 then none else some (.int k (x.tmod y))
  | .and => some (.int k (k.wrap ((BitVec.ofInt k.bits x &&& BitVec.ofInt k.bits y).toNat : Int)))
  | .or => some (.int k (k.wrap ((BitVec.ofInt k.bits x ||| BitVec.ofInt k.bits y).toNat : Int)))
  | .xor => some (.int k (k.wrap ((BitVec.ofInt k.bits x ^^^ BitVec.ofInt k.bits y).toNat : Int)))
  | .andNot => some (.int k (k.wrap ((BitVec.ofInt k.bits x &&& ~~~ BitVec.ofInt k.bits y).toNat : Int)))
  | .eql => some (.bool (x == y))
  | .neq => some (.bool (x != y))
  | .lss => some (.bool (x < y))
  | .leq => some (.bool (x ≤ y))
  | .gtr => some (.bool (x > y))
  | .geq => some (.bool (x ≥ y))
  | _ => none
def aShift (op : BinOp) (k : IntKind) (x y : Int) : Option AV :=
  if y < 0 then none else
  match op with
  | .shl => some (.int k (k.wrap (x * 2 ^ (min y.toNat k.bits))))
  | .shr => some (.int k (x.fdiv (2 ^ (min y.toNat k.bits))))
  | _ => none
def aStr (op : BinOp) (x y : ByteArray) : Option AV :=
  match op with
  | .add => if ((x.size + y.size : Nat) : Int) > 9223372036854775807 then none else some (.str (x ++ y))
  | .eql => some (.bool (x.toList == y.toList))
  | .neq => some (.bool (!(x.toList == y.toList)))
  | .lss => some (.bool (Op.bytesLess x.toList y.toList))
  | .leq => some (.bool (Op.bytesLess x.toList y.toList || x.toList == y.toList))
  | .gtr => some (.bool (!(Op.bytesLess x.toList y.toList || x.toList == y.toList)))
  | .geq => some (.bool (!Op.bytesLess x.toList y.toList))
  | _ => none
/-- '==' of what is no number and no string. -/
def aSame (d : TypeDesc) (x y : AV) : Option Bool :=
  match d, x, y with
  | .bool, .bool a, .bool b => some (a == b)
  | .pointer _, .nilp, .nilp => some true
  | .pointer _, .nilp, .optr .. => some false
  | .pointer _, .optr .., .nilp => some false
  | .pointer _, .nilp, .fptr .. => some false
  | .pointer _, .fptr .., .nilp => some false
  | .func .., .nilf, .nilf => some true
  | .func .., .nilf, .fn .. => some false
  | .func .., .fn .., .nilf => some false
  | .interface _, .nili, .iface .. => some false
  | .interface _, .iface .., .nili => some false
  | _, _, _ => none
def aPrim (d : TypeDesc) (x y : AV) : Option Bool :=
  match d, x, y with
  | .bool, .bool a, .bool b => some (a == b)
  | .int _, .int k a, .int k' b => if k = k' then some (a == b) else none
  | .string, .str a, .str b => some (a.toList == b.toList)
  | _, _, _ => none
def aSameF (T : Tab) : List Field → List AV → List AV → Option Bool
  | [], _, _ => some true
  | f :: fs, xs, ys => match T f.type with
    | none => none
    | some q => match q.agg with
      | true => none
      | false => match xs[f.offset]?, ys[f.offset]? with
        | some x, some y => match aPrim q.desc x y, aSameF T fs xs ys with
          | some b, some c => some (b && c)
          | _, _ => none
        | _, _ => none
def aSameT (T : Tab) (r : TRow) (x y : AV) : Option Bool :=
  match r.desc, x, y with
  | .struct fs, .agg xs, .agg ys => match r.plain with
    | true => aSameF T fs.toList xs ys
    | false => none
  | d, x, y => aSame d x y
def aBin (T : Tab) (op : BinOp) (t : TypeId) (x y : AV) : Option AV :=
  match x, y with
  | .int k a, .int k' b => match op with
    | .shl => aShift .shl k a b
    | .shr => aShift .shr k a b
    | op => if k = k' then aInt op k a b else none
  | .str a, .str b => aStr op a b
  | x, y => match T t with
    | none => none
    | some r => match op with
      | .eql => (aSameT T r x y).map .bool
      | .neq => (aSameT T r x y).map fun b => .bool (!b)
      | _ => none
theorem run_same {P : Program} {T : Tab} (hT : TOk P T) {t : TypeId} {r : TRow} (hr : T t = some r) {w : World} {rd : Addr → Option Value} {sz : Nat → Nat} {x y : AV} {cx cy : Value} {b : Bool} (hx : Rep rd sz x cx) (hy : Rep rd sz y cy)
    (h : aSame r.desc x y = some b) : (Op.equal t cx cy).run P w = .ok b w := by
  have hund := TOk.und hT hr w
  unfold Op.equal
  rw [show Op.maxDepth = 9999 + 1 from rfl]
  generalize 9999 = dd
  generalize r.desc = d at h hund
  unfold aSame at h
  split at h
  all_goals first | (cases h; done) | (cases hx; cases hy; cases h; simp [Op.equalIn, hund])
theorem run_prim {P : Program} {t : TypeId} {d : TypeDesc} {dd : Nat} {w : World} {rd : Addr → Option Value} {sz : Nat → Nat} {x y : AV} {cx cy : Value} {b : Bool} (hund : P.underlying t = some d) (hx : Rep rd sz x cx) (hy : Rep rd sz y cy)
    (h : aPrim d x y = some b) : (Op.equalIn (dd + 1) t cx cy).run P w = .ok b w := by
  unfold aPrim at h
  split at h
  · cases hx; cases hy; cases h; exact run_equalIn_bool' w dd t _ _ hund
  · split at h
    · rename_i hk
      subst hk
      cases hx; cases hy; cases h; exact run_equalIn_int w dd t _ _ _ _ hund
    · cases h
  · cases hx; cases hy; cases h; exact run_equalIn_string w dd t _ _ hund
  · cases h
theorem run_part {P : Program} {T : Tab} (hT : TOk P T) {t : TypeId} {r : TRow} (hr : T t = some r) (ha : r.agg = false) {w : World} {vs : Array Value} {o : Nat} (ho : o < vs.size) : (part t vs o).run P w = .ok vs[o] w := by
  have hag := TOk.isAgg hT hr w
  simp only [part, Sem.run_bind, hag, ha, Result.andThen_ok, Bool.false_eq_true, if_false, Array.getElem?_eq_getElem ho, Sem.run_pure]
theorem run_sameF {P : Program} {T : Tab} (hT : TOk P T) {dd : Nat} {w : World} {rd : Addr → Option Value} {sz : Nat → Nat} {xs ys : List AV} {vs us : Array Value} (hx : Rep rd sz (.agg xs) (.agg vs)) (hy : Rep rd sz (.agg ys) (.agg us)) :
    ∀ (fs : List Field) (b : Bool), (∀ f ∈ fs, f.name ≠ "_") → aSameF T fs xs ys = some b → (Op.eqFields (dd + 1) vs us fs).run P w = .ok b w
  | [], b, _, h => by cases h; rfl
  | f :: fs, b, hn, h => by
    unfold aSameF at h
    split at h
    · cases h
    rename_i q hq
    split at h
    · cases h
    rename_i hagg
    split at h
    case h_2 => cases h
    rename_i x y hxo hyo
    split at h
    case h_2 => cases h
    rename_i b1 c1 hb hc
    cases h
    have ih := run_sameF (dd := dd) (w := w) hT hx hy fs c1 (fun g hg => hn g (List.mem_cons_of_mem _ hg)) hc
    cases hx with
    | agg xs vs hl hg =>
      cases hy with
      | agg ys us hl' hg' =>
        have h1 : f.offset < vs.size := by rw [← hl]; exact (List.getElem?_eq_some_iff.1 hxo).1
        have h2 : f.offset < us.size := by rw [← hl']; exact (List.getElem?_eq_some_iff.1 hyo).1
        have hp := run_prim (P := P) (dd := dd) (w := w) (hT f.type q hq).1 (hg _ _ _ hxo (Array.getElem?_eq_getElem h1)) (hg' _ _ _ hyo (Array.getElem?_eq_getElem h2)) hb
        unfold Op.eqFields
        rw [if_pos (hn f (List.mem_cons_self ..))]
        simp only [Sem.run_bind, run_part hT hq hagg h1, run_part hT hq hagg h2, Result.andThen_ok, hp]
        cases b1 with
        | false => simp
        | true => simpa using ih
theorem run_sameS {P : Program} {T : Tab} (hT : TOk P T) (hE : EqOk P T) {t : TypeId} {r : TRow} (hr : T t = some r) {w : World} {rd : Addr → Option Value} {sz : Nat → Nat} {fs : Array Field} {xs ys : List AV} {vs us : Array Value} {b : Bool} (hd : r.desc = .struct fs) (hp : r.plain = true)
    (hx : Rep rd sz (.agg xs) (.agg vs)) (hy : Rep rd sz (.agg ys) (.agg us)) (h : aSameF T fs.toList xs ys = some b) : (Op.equalIn 10000 t (.agg vs) (.agg us)).run P w = .ok b w ∧ P.eqGuardType P.depth t = false := by
  obtain ⟨e1, e2, e3⟩ := hE t r hr hp
  have hu : P.underlying t = some (.struct fs) := by rw [(hT t r hr).1, hd]
  have hf : P.fieldsOf t = fs := by unfold Program.fieldsOf; rw [hu]
  refine ⟨?_, e2⟩
  rw [show (10000 : Nat) = 9999 + 1 from rfl, run_equalIn_struct w 9999 t vs us (by rw [hf]; exact hu) e1, hf, show (9999 : Nat) = 9998 + 1 from rfl]
  exact run_sameF hT hx hy fs.toList b (e3 fs hd) h
theorem so_binOp {P : Program} {T : Tab} (hT : TOk P T) (hE : EqOk P T) {o : Oper} {A : List AV} {a : Act} {st : St} {w : World} {op : BinOp} {t u : TypeId} {x y : Operand} {k : KK} {next : Act → World → Prop} {Q : Exit → Act → World → Prop} {v : AV}
    (ho : o.op = .binOp op t x y u) (hA : RelA w st A a) (hS : RelS st w) (h : aBin T op t (ev A x) (ev A y) = some v) (hk : k v st) (hn : Nxt st w k a o.dst next) : o.wp P a w next Q := by
  have hx := ev_rep hA x
  have hy := ev_rep hA y
  suffices hmain : ∃ c, RepW w st v c ∧ (eqGuard op t x y (a.eval x) (a.eval y)).run P w = .ok () w ∧ (binOp op t (a.eval x) (a.eval y)).run P w = .ok c w by
    obtain ⟨c, h1, h2, h3⟩ := hmain
    refine so_pure (c := c) ?_ hS h1 hk hn
    simp only [execOp, ho, Sem.run_bind, h2, h3, Result.andThen_ok, Sem.run_pure]
  generalize a.eval x = cx at hx
  generalize a.eval y = cy at hy
  generalize ev A x = ax at h hx
  generalize ev A y = ay at h hy
  unfold aBin at h
  split at h
  · rename_i kk i k' j
    cases hx
    cases hy
    have hg : ∀ w : World, (eqGuard op t x y (.int kk i) (.int k' j)).run P w = .ok () w := fun w => by
      cases op <;> simp [eqGuard]
    split at h
    · unfold aShift at h
      split at h
      · cases h
      · rename_i hlt
        cases h
        exact ⟨_, .int _ _, hg w, by simp [binOp, Op.shift, hlt]⟩
    · unfold aShift at h
      split at h
      · cases h
      · rename_i hlt
        cases h
        exact ⟨_, .int _ _, hg w, by simp [binOp, Op.shift, hlt]⟩
    · rename_i hs1 hs2
      split at h
      case isFalse => cases h
      rename_i hkk
      subst hkk
      cases op <;> simp only [aInt] at h <;> first
        | (cases h; done)
        | (exact absurd rfl hs1)
        | (exact absurd rfl hs2)
        | (cases h; exact ⟨_, .int _ _, hg w, by simp [binOp, Op.intArith, Op.intBits]⟩)
        | (cases h; exact ⟨_, .bool _, hg w, by simp [binOp, Op.intCmp]⟩)
        | (split at h
           · cases h
           · rename_i hz; cases h; exact ⟨_, .int _ _, hg w, by simp [binOp, Op.intDiv, hz]⟩)
  · rename_i s1 s2
    cases hx
    cases hy
    have hg : ∀ w : World, (eqGuard op t x y (.string s1) (.string s2)).run P w = .ok () w := fun w => by
      cases op <;> simp [eqGuard]
    cases op <;> simp only [aStr] at h <;> first
      | (cases h; done)
      | (cases h; exact ⟨_, .bool _, hg w, by simp [binOp, Op.stringOp]⟩)
      | (split at h
         · cases h
         · rename_i hz
           cases h
           refine ⟨_, .str _, hg w, ?_⟩
           have hm : IntKind.i64.max = 9223372036854775807 := by rfl
           simp only [binOp, Op.stringOp]
           rw [if_neg (by rw [hm]; exact hz)]
           rfl)
  · split at h
    · cases h
    · rename_i hni hns r hr
      split at h
      · simp only [Option.map_eq_some_iff] at h
        obtain ⟨b, hb, rfl⟩ := h
        unfold aSameT at hb
        split at hb
        · rename_i fs xs ys hd _
          split at hb
          case h_2 => cases hb
          rename_i hp
          cases hx with
          | agg xs vs hl hg =>
            cases hy with
            | agg ys us hl' hg' =>
              obtain ⟨h1, h2⟩ := run_sameS (w := w) hT hE hr hd hp (.agg xs vs hl hg) (.agg ys us hl' hg') hb
              exact ⟨.bool b, .bool b, run_eqGuard_agg w _ t x y vs us h2, by rw [run_eql_struct w t vs us, h1]; rfl⟩
        · have hrun := run_same hT hr (w := w) hx hy hb
          refine ⟨.bool b, .bool b, ?_, ?_⟩
          · unfold aSame at hb
            split at hb <;> first | (cases hb; done) | (cases hx; cases hy; simp [eqGuard])
          · unfold aSame at hb
            split at hb <;> first | (cases hb; done) | (cases hx; cases hy; simp [binOp, hrun])
      · simp only [Option.map_eq_some_iff] at h
        obtain ⟨b, hb, rfl⟩ := h
        unfold aSameT at hb
        split at hb
        · rename_i fs xs ys hd _
          split at hb
          case h_2 => cases hb
          rename_i hp
          cases hx with
          | agg xs vs hl hg =>
            cases hy with
            | agg ys us hl' hg' =>
              obtain ⟨h1, h2⟩ := run_sameS (w := w) hT hE hr hd hp (.agg xs vs hl hg) (.agg ys us hl' hg') hb
              exact ⟨.bool (!b), .bool (!b), run_eqGuard_agg w _ t x y vs us h2, by rw [run_neq_struct w t vs us, h1]; rfl⟩
        · have hrun := run_same hT hr (w := w) hx hy hb
          refine ⟨.bool (!b), .bool (!b), ?_, ?_⟩
          · unfold aSame at hb
            split at hb <;> first | (cases hb; done) | (cases hx; cases hy; simp [eqGuard])
          · unfold aSame at hb
            split at hb <;> first | (cases hb; done) | (cases hx; cases hy; simp [binOp, hrun])
      · cases h
/-- A slice held against the literal nil: of one that has elements it is known. -/
def aNilV (v : AV) : Option AV :=
  match v with
  | .own .. => some (.bool false)
  | .emp => some .ubool
  | .arr _ n _ => match n with
    | 0 => some .ubool
    | _ + 1 => some (.bool false)
  | _ => none
def aNil (T : Tab) (op : BinOp) (t : TypeId) (y : Operand) (v : AV) : Option AV :=
  match y with
  | .const c => match c with
    | .slice a l m => match a, l, m, op with
      | none, 0, 0, .eql => (match T t with | some r => (match r.desc with | .slice _ => aNilV v | _ => none) | none => none)
      | none, 0, 0, .neq => (match T t with | some r => (match r.desc with | .slice _ => (match aNilV v with | some (.bool b) => some (.bool (!b)) | z => z) | _ => none) | none => none)
      | _, _, _, _ => none
    | _ => none
  | _ => none
def aBinO (T : Tab) (op : BinOp) (t : TypeId) (y : Operand) (vx vy : AV) : Option AV :=
  match aNil T op t y vx with
  | some z => some z
  | none => aBin T op t vx vy
theorem aNilV_rep {rd : Addr → Option Value} {sz : Nat → Nat} {v z : AV} {c : Value} (h : aNilV v = some z) (hr : Rep rd sz v c) : ∃ a l m, c = .slice a l m ∧ Rep rd sz z (.bool a.isNone) ∧ (∀ b, z = .bool b → b = false) ∧ (z = .ubool ∨ ∃ b, z = .bool b) := by
  unfold aNilV at h
  split at h
  · cases h
    cases hr
    exact ⟨_, _, _, rfl, .bool _, (fun b hb => by cases hb; rfl), .inr ⟨_, rfl⟩⟩
  · cases h
    cases hr
    exact ⟨_, _, _, rfl, .ubool _, (fun b hb => by cases hb), .inl rfl⟩
  · split at h
    · cases h
      cases hr
      exact ⟨_, _, _, rfl, .ubool _, (fun b hb => by cases hb), .inl rfl⟩
    · cases h
      cases hr with
      | arr e n f A c g hc hA hl ho hr hg =>
        obtain ⟨a, rfl⟩ := hA (by omega)
        exact ⟨_, _, _, rfl, .bool _, (fun b hb => by cases hb; rfl), .inr ⟨_, rfl⟩⟩
  · cases h
theorem so_nil {P : Program} {T : Tab} (hT : TOk P T) {o : Oper} {A : List AV} {a : Act} {st : St} {w : World} {op : BinOp} {t u : TypeId} {x y : Operand} {k : KK} {next : Act → World → Prop} {Q : Exit → Act → World → Prop} {z : AV}
    (ho : o.op = .binOp op t x y u) (hA : RelA w st A a) (hS : RelS st w) (h : aNil T op t y (ev A x) = some z) (hk : k z st) (hn : Nxt st w k a o.dst next) : o.wp P a w next Q := by
  have hx := ev_rep hA x
  unfold aNil at h
  split at h
  case h_2 => cases h
  rename_i c
  split at h
  case h_2 => cases h
  rename_i sa sl sm
  split at h
  · split at h
    case h_2 => cases h
    rename_i r hr
    split at h
    case h_2 => cases h
    rename_i el hd
    obtain ⟨a', l, m, he, hz, _, _⟩ := aNilV_rep h hx
    have hu : P.underlying t = some (.slice el) := by rw [(hT t r hr).1, hd]
    have hrun := run_equal_slice_nil (P := P) w t el a' l m hu
    refine so_pure (c := .bool a'.isNone) ?_ hS hz hk hn
    have hy : a.eval (.const (.slice none 0 0)) = .slice none 0 0 := rfl
    simp only [execOp, ho, Sem.run_bind, he, hy]
    simp [eqGuard, binOp, hrun]
  · split at h
    case h_2 => cases h
    rename_i r hr
    split at h
    case h_2 => cases h
    rename_i el hd
    have hex : ∃ z0, aNilV (ev A x) = some z0 := by
      cases hz : aNilV (ev A x) with
      | none => rw [hz] at h; cases h
      | some z0 => exact ⟨z0, rfl⟩
    obtain ⟨z0, hz0⟩ := hex
    rw [hz0] at h
    obtain ⟨a', l, m, he, hz, _, hb⟩ := aNilV_rep hz0 hx
    have hu : P.underlying t = some (.slice el) := by rw [(hT t r hr).1, hd]
    have hrun := run_equal_slice_nil (P := P) w t el a' l m hu
    have hz' : RepW w st z (.bool (!a'.isNone)) := by
      rcases hb with e | ⟨b, e⟩
      · rw [e] at h; cases h; exact .ubool _
      · rw [e] at h hz; cases h; cases hz; exact .bool _
    refine so_pure (c := .bool (!a'.isNone)) ?_ hS hz' hk hn
    have hy : a.eval (.const (.slice none 0 0)) = .slice none 0 0 := rfl
    simp only [execOp, ho, Sem.run_bind, he, hy]
    simp [eqGuard, binOp, hrun]
  · cases h
theorem so_binO {P : Program} {T : Tab} (hT : TOk P T) (hE : EqOk P T) {o : Oper} {A : List AV} {a : Act} {st : St} {w : World} {op : BinOp} {t u : TypeId} {x y : Operand} {k : KK} {next : Act → World → Prop} {Q : Exit → Act → World → Prop} {v : AV}
    (ho : o.op = .binOp op t x y u) (hA : RelA w st A a) (hS : RelS st w) (h : aBinO T op t y (ev A x) (ev A y) = some v) (hk : k v st) (hn : Nxt st w k a o.dst next) : o.wp P a w next Q := by
  unfold aBinO at h
  split at h
  · rename_i z hz; cases h; exact so_nil hT ho hA hS hz hk hn
  · exact so_binOp hT hE ho hA hS h hk hn
def aUn (op : UnOp) (x : AV) : Option AV :=
  match op, x with
  | .not, .bool b => some (.bool (!b))
  | .neg, .int k n => some (.int k (k.wrap (0 - n)))
  | _, _ => none
theorem so_unOp {P : Program} {o : Oper} {A : List AV} {a : Act} {st : St} {w : World} {op : UnOp} {t : TypeId} {x : Operand} {k : KK} {next : Act → World → Prop} {Q : Exit → Act → World → Prop} {v : AV}
    (ho : o.op = .unOp op t x) (hA : RelA w st A a) (hS : RelS st w) (h : aUn op (ev A x) = some v) (hk : k v st) (hn : Nxt st w k a o.dst next) : o.wp P a w next Q := by
  have hx := ev_rep hA x
  generalize hxv : a.eval x = cx at hx
  generalize ev A x = ax at h hx
  unfold aUn at h
  split at h
  · cases hx; cases h
    exact so_pure (by simp only [execOp, ho, hxv, Op.unary, Sem.run_bind, Sem.run_pure, Result.andThen_ok]) hS (.bool _) hk hn
  · cases hx; cases h
    exact so_pure (by simp only [execOp, ho, hxv, Op.unary, Op.intArith, Sem.run_bind, Sem.run_pure, Result.andThen_ok]) hS (.int _ _) hk hn
  · cases h

/-! ### moves -/
theorem so_move {P : Program} {o : Oper} {A : List AV} {a : Act} {st : St} {w : World} {x : Operand} {k : KK} {next : Act → World → Prop} {Q : Exit → Act → World → Prop}
    (ho : o.op = .move x ∨ o.op = .assign x) (hA : RelA w st A a) (hS : RelS st w) (hk : k (ev A x) st) (hn : Nxt st w k a o.dst next) : o.wp P a w next Q := by
  refine so_pure (c := a.eval x) ?_ hS (ev_rep hA x) hk hn
  rcases ho with ho | ho <;> simp only [execOp, ho, Sem.run_pure]
theorem so_pick {P : Program} {o : Oper} {A : List AV} {a : Act} {st : St} {w : World} {c x y : Operand} {b : Bool} {k : KK} {next : Act → World → Prop} {Q : Exit → Act → World → Prop}
    (ho : o.op = .pick c x y) (hA : RelA w st A a) (hS : RelS st w) (hc : ev A c = .bool b) (h1 : b = true → k (ev A x) st) (h2 : b = false → k (ev A y) st) (hn : Nxt st w k a o.dst next) : o.wp P a w next Q := by
  have hcr := ev_rep hA c
  rw [hc] at hcr
  generalize hcv : a.eval c = cv at hcr
  cases hcr
  cases b with
  | true => exact so_pure (c := a.eval x) (by simp only [execOp, ho, hcv, asBool, Sem.run_bind, Sem.run_pure, Result.andThen_ok, if_true]) hS (ev_rep hA x) (h1 rfl) hn
  | false => exact so_pure (c := a.eval y) (by simp only [execOp, ho, hcv, asBool, Sem.run_bind, Sem.run_pure, Result.andThen_ok, Bool.false_eq_true, if_false]) hS (ev_rep hA y) (h2 rfl) hn
def aNilCheck (v : AV) : Bool :=
  match v with
  | .fptr .. => true
  | .optr .. => true
  | .fn (.func _) _ _ => true
  | .fn (.via ..) _ _ => true
  | .iface .. => true
  | _ => false
theorem so_nilCheck {P : Program} {o : Oper} {A : List AV} {a : Act} {st : St} {w : World} {x : Operand} {k : KK} {next : Act → World → Prop} {Q : Exit → Act → World → Prop}
    (ho : o.op = .nilCheck x) (hA : RelA w st A a) (hS : RelS st w) (h : aNilCheck (ev A x) = true) (hk : k (ev A x) st) (hn : Nxt st w k a o.dst next) : o.wp P a w next Q := by
  refine so_pure (c := a.eval x) ?_ hS (ev_rep hA x) hk hn
  have hx := ev_rep hA x
  simp only [execOp, ho]
  generalize a.eval x = cx at hx
  generalize ev A x = ax at h hx
  unfold aNilCheck at h
  split at h
  · cases hx; rfl
  · cases hx; rfl
  · cases hx; rfl
  · cases hx; rfl
  · cases hx; rfl
  · cases h
/-- The bytes that a row of them holds. -/
def bytesA (f : Nat → AV) : Nat → Option (List Int)
  | 0 => some []
  | n + 1 => match bytesA f n with
    | none => none
    | some l => match f n with
      | .int .u8 x => some (l ++ [x])
      | _ => none
theorem bytesA_spec {f : Nat → AV} : ∀ {n : Nat} {l : List Int}, bytesA f n = some l → l.length = n ∧ ∀ i, i < n → f i = .int .u8 (l.getD i 0)
  | 0, l, h => by cases h; exact ⟨rfl, fun i hi => by omega⟩
  | n + 1, l, h => by
    unfold bytesA at h
    split at h
    · cases h
    · rename_i l' hl'
      obtain ⟨h1, h2⟩ := bytesA_spec hl'
      split at h
      · rename_i x hx
        cases h
        refine ⟨by simp [h1], fun i hi => ?_⟩
        rcases Nat.lt_succ_iff_lt_or_eq.1 hi with h3 | h3
        · rw [h2 i h3]; congr 1
          rw [List.getD_eq_getElem?_getD, List.getD_eq_getElem?_getD, List.getElem?_append_left (by omega)]
        · subst h3; rw [hx]; congr 1
          rw [← h1]; simp [List.getD_eq_getElem?_getD]
      · cases h
def strA (l : List Int) : ByteArray := l.foldl (fun r n => r.push (UInt8.ofNat n.toNat)) ByteArray.empty
def isBytes (T : Tab) (el : TypeId) : Bool := match T el with
  | none => false
  | some z => match z.desc with
    | .int .u8 => true
    | _ => false
def aConvert (T : Tab) (src dst : TypeId) (x : AV) : Option AV :=
  match T src, T dst with
  | some r, some q => match q.desc, x with
    | .int k, .int _ n => some (.int k (k.wrap n))
    | .string, .str s => match r.desc with | .slice _ => none | _ => some (.str s)
    | .string, .arr e n f => match r.desc with
      | .slice el => match isBytes T el && Nat.beq e 1 with
        | true => match bytesA f n with
          | some l => some (.str (strA l))
          | none => none
        | false => none
      | _ => none
    | _, _ => none
  | _, _ => none
theorem so_convert {P : Program} {T : Tab} (hT : TOk P T) {o : Oper} {A : List AV} {a : Act} {st : St} {w : World} {src dst : TypeId} {x : Operand} {k : KK} {next : Act → World → Prop} {Q : Exit → Act → World → Prop} {v : AV}
    (ho : o.op = .convert src dst x) (hA : RelA w st A a) (hS : RelS st w) (h : aConvert T src dst (ev A x) = some v) (hk : k v st) (hn : Nxt st w k a o.dst next) : o.wp P a w next Q := by
  unfold aConvert at h
  split at h
  case h_2 => cases h
  rename_i r q hr hq
  have h1 := TOk.und hT hr w
  have h2 := TOk.und hT hq w
  have hx := ev_rep hA x
  generalize hxv : a.eval x = cx at hx
  generalize ev A x = ax at h hx
  split at h
  · rename_i hd
    rw [hd] at h2
    cases hx; cases h
    refine so_pure ?_ hS (.int _ _) hk hn
    simp only [execOp, ho, hxv, convert, Sem.run_bind, h1, h2, Result.andThen_ok]
    cases r.desc <;> simp [Conv.intToInt]
  · rename_i hd
    rw [hd] at h2
    split at h
    · cases h
    · rename_i hns
      cases hx; cases h
      refine so_pure ?_ hS (.str _) hk hn
      simp only [execOp, ho, hxv, convert, Sem.run_bind, h1, h2, Result.andThen_ok]
      cases hrd : r.desc <;> simp <;> exact absurd hrd (hns _)
  · rename_i e n f hd
    rw [hd] at h2
    split at h
    · rename_i el hrd
      rw [hrd] at h1
      split at h
      · rename_i hb
        rw [Bool.and_eq_true, Nat.beq_eq] at hb
        obtain ⟨hb, rfl⟩ := hb
        split at h
        · rename_i l hl
          cases h
          obtain ⟨hll, hlf⟩ := bytesA_spec hl
          have hel : ∃ z, T el = some z ∧ z.desc = .int .u8 := by
            unfold isBytes at hb
            split at hb
            · cases hb
            · rename_i z hz
              split at hb
              · rename_i hzd; exact ⟨z, hz, hzd⟩
              · cases hb
          obtain ⟨z, hz, hzd⟩ := hel
          have h3 := TOk.und hT hz w
          rw [hzd] at h3
          cases hx with
          | arr e n f A c g hc hA' hle ho' hr' hg =>
            refine so_pure ?_ hS (.str _) hk hn
            have hconv : (convert src dst (.slice A n c)).run P w = (Conv.bytesToString (.slice A n c)).run P w := by
              simp only [convert, Sem.run_bind, h1, h2, h3, Result.andThen_ok]
            have hbytes : (Conv.bytesToString (.slice A n c)).run P w = .ok (.string (strA l)) w := by
              cases A with
              | none =>
                have hn0 : n = 0 := by
                  rcases Nat.eq_zero_or_pos n with h0 | h0
                  · exact h0
                  · obtain ⟨a, ha⟩ := hA' h0; cases ha
                subst hn0
                have : l = [] := List.eq_nil_of_length_eq_zero hll
                subst this
                simp [Conv.bytesToString, Sem.run_pure, strA]
              | some a =>
                have hcell : ∀ j, j < n → w.cell? (a.add j) = some (.int .u8 (l.getD j 0)) := fun j hj => by
                  have h4 := rdOf_cell (hr' a rfl j 0 hj (by omega))
                  have h5 := hg j 0 (.int .u8 (l.getD j 0)) hj (by rw [hlf j hj]; rfl)
                  rw [Nat.mul_one, Nat.add_zero] at h4
                  rw [h4]
                  generalize g j 0 = u at h5
                  cases h5; rfl
                have hload := run_loadCells (P := P) (w := w) a n (fun j => .int .u8 (l.getD j 0)) hcell
                refine run_bytesToString w a n c l ?_
                rw [hload]
                congr 1
                refine Array.ext (by simp [hll]) fun i h6 h7 => ?_
                simp at h6 h7
                simp [List.getD_eq_getElem?_getD, show i < l.length by omega]
            simp only [execOp, ho, hxv, Sem.run_bind, hconv, hbytes, Result.andThen_ok, Sem.run_pure]
        · cases h
      · cases h
    · cases h
  · cases h

/-! ### function values, interface values -/
theorem repList_map {w : World} {st : St} {A : List AV} {a : Act} (hA : RelA w st A a) (xs : Array Operand) : (xs.toList.map (ev A)).length = (xs.map a.eval).size ∧
    ∀ (j : Nat) (y : AV) (c : Value), (xs.toList.map (ev A))[j]? = some y → (xs.map a.eval)[j]? = some c → RepW w st y c := by
  refine ⟨by simp, fun j y c hy hc => ?_⟩
  simp only [List.getElem?_map, Array.getElem?_toList, Array.getElem?_map] at hy hc
  cases hj : xs[j]? with
  | none => rw [hj] at hy; cases hy
  | some x =>
    rw [hj] at hy hc
    cases hy; cases hc
    exact ev_rep hA x
theorem so_makeFunc {P : Program} {o : Oper} {A : List AV} {a : Act} {st : St} {w : World} {fn : Fn} {fs cs : Array Operand} {k : KK} {next : Act → World → Prop} {Q : Exit → Act → World → Prop}
    (ho : o.op = .makeFunc fn fs cs) (hA : RelA w st A a) (hS : RelS st w) (hk : k (.fn fn (fs.toList.map (ev A)) (cs.toList.map (ev A))) st) (hn : Nxt st w k a o.dst next) : o.wp P a w next Q := by
  obtain ⟨h1, h2⟩ := repList_map hA fs
  obtain ⟨h3, h4⟩ := repList_map hA cs
  exact so_pure (c := .func fn (fs.map a.eval) (cs.map a.eval)) (by simp only [execOp, ho, Instr.makeFunc, Sem.run_bind, Sem.run_pure, Result.andThen_ok]) hS (.fn _ _ _ _ _ h1 h3 h2 h4) hk hn
def ifaceT (T : Tab) (t : TypeId) : Bool := match T t with | some r => (match r.desc with | .interface _ => false | _ => true) | none => false
theorem so_makeInterface {P : Program} {T : Tab} (hT : TOk P T) {o : Oper} {A : List AV} {a : Act} {st : St} {w : World} {t : TypeId} {x : Operand} {k : KK} {next : Act → World → Prop} {Q : Exit → Act → World → Prop}
    (ho : o.op = .makeInterface t x) (hA : RelA w st A a) (hS : RelS st w) (h : ifaceT T t = true) (hk : k (.iface t (ev A x)) st) (hn : Nxt st w k a o.dst next) : o.wp P a w next Q := by
  unfold ifaceT at h
  split at h
  case h_2 => cases h
  rename_i r hr
  have h1 := TOk.und hT hr w
  refine so_pure (c := .iface t (a.eval x)) ?_ hS (.iface t _ _ (ev_rep hA x)) hk hn
  simp only [execOp, ho, Instr.makeInterface, Sem.run_bind, h1, Result.andThen_ok]
  cases hd : r.desc <;> simp [hd] at h ⊢
def aAssert (T : Tab) (x : AV) (t : TypeId) (ok : Bool) : Option AV :=
  match T t with
  | none => none
  | some r => match r.desc with
    | .interface _ => none
    | _ => match x with
      | .iface u v => if u = t then some (if ok then .tuple [v, .bool true] else v) else none
      | _ => none
theorem so_typeAssert {P : Program} {T : Tab} (hT : TOk P T) {o : Oper} {A : List AV} {a : Act} {st : St} {w : World} {t u : TypeId} {x : Operand} {ok : Bool} {k : KK} {next : Act → World → Prop} {Q : Exit → Act → World → Prop} {v : AV}
    (ho : o.op = .typeAssert x u t ok) (hA : RelA w st A a) (hS : RelS st w) (h : aAssert T (ev A x) t ok = some v) (hk : k v st) (hn : Nxt st w k a o.dst next) : o.wp P a w next Q := by
  unfold aAssert at h
  split at h
  · cases h
  rename_i r hr
  have h1 := TOk.und hT hr w
  have hx := ev_rep hA x
  generalize hxv : a.eval x = cx at hx
  generalize ev A x = ax at h hx
  split at h
  · cases h
  rename_i hni
  split at h
  case h_2 => cases h
  split at h
  case isFalse => cases h
  rename_i hut
  subst hut
  cases hx with
  | iface t' v' c hc =>
    cases h
    refine so_pure (c := if ok then .tuple #[c, .bool true] else c) ?_ hS ?_ hk hn
    · simp only [execOp, ho, hxv, Instr.typeAssert, Sem.run_bind, h1, Result.andThen_ok]
      cases hd : r.desc <;> first | (simp; done) | exact absurd hd (hni _)
    · cases ok with
      | false => exact hc
      | true =>
        refine .tuple _ _ rfl fun j y d hy hd => ?_
        match j with
        | 0 => simp at hy hd; subst hy; subst hd; exact hc
        | 1 => simp at hy hd; subst hy; subst hd; exact .bool true
        | j + 2 => simp at hy
end Go.Ab
/- The abstract machine, part 5: new variables, composite values, make, slicing, append, len, min, max. -/
set_option linter.unusedVariables false
set_option linter.unusedSimpArgs false
namespace Go.Ab
open Go

/-! ### A new block -/
theorem blk_one {w : World} {st : St} {v : AV} {c : Value} {ty : TypeId} {g : Nat} (hg : w.heap[g]? = some (.cells c.cells ty (0, 0))) (hv : RepW w st v c) (h1 : (cellsOf v).all AV.one = true) (h0 : 0 < (cellsOf v).length) :
    BlkOk w st g ⟨ty, (cellsOf v).length, 1, fun _ => v⟩ c.cells := by
  obtain ⟨a1, a2, a3⟩ := one_cells hv h1 h0
  refine ⟨hg, by simp [a1], fun _ _ => rfl, fun _ _ => h1, fun i j y hi hy => ?_⟩
  obtain ⟨u, hu1, hu2⟩ := a3 j y hy
  refine ⟨u, ?_, hu2⟩
  have : i = 0 := by simp at hi; exact hi
  subst this; simpa using hu1
def aNew (ty : TypeId) (v : AV) (st : St) (k : KK) : Prop :=
  0 < (cellsOf v).length ∧ (cellsOf v).all AV.one = true ∧ (k (.fptr v 0) st ∨ ∀ b, st b = none → k (.optr (cellsOf v).length b 0 0) (upd st b ⟨ty, (cellsOf v).length, 1, fun _ => v⟩))
/-- A block of one element that nobody writes any more, as a pointer. -/
theorem fptr_of_blk {w : World} {st : St} {g : Nat} {x : Blk} {cs : Array Value} (hok : BlkOk w st g x cs) (hst : st g = none) (hn : 0 < x.n) : RepW w st (.fptr (x.f 0) 0) (.pointer (some ⟨g, 0, none⟩)) := by
  have hex : ∀ j, ∃ u, j < x.e → cs[j]? = some u ∧ ∀ y, (cellsOf (x.f 0))[j]? = some y → RepW w st y u := by
    intro j
    by_cases hj : j < x.e
    · have hlen := hok.len 0 hn
      obtain ⟨u, hu1, hu2⟩ := hok.cell 0 j ((cellsOf (x.f 0))[j]'(by omega)) hn (List.getElem?_eq_getElem (by omega))
      refine ⟨u, fun _ => ⟨by simpa using hu1, fun y hy => ?_⟩⟩
      rw [List.getElem?_eq_getElem (by omega)] at hy
      cases hy; exact hu2
    · exact ⟨undef, fun h => absurd h hj⟩
  obtain ⟨g', hg'⟩ := Classical.axiomOfChoice hex
  have := Rep.fptr (rd := rdOf w st) (sz := szOf w) (x.f 0) 0 ⟨g, 0, none⟩ g' (fun j hj => by
    rw [hok.len 0 hn] at hj
    rw [Addr.add_lit]
    unfold rdOf
    simp only [hst]
    rw [Nat.zero_add, cell_of_row w g _ cs x.ty (0, 0) hok.heap]
    exact (hg' j hj).1) (fun j y hy => (hg' j (by rw [← hok.len 0 hn]; exact (List.getElem?_eq_some_iff.1 hy).1)).2 y hy)
  rw [Addr.add_lit] at this
  exact this
theorem new_ok {w : World} {st : St} {v : AV} {c : Value} {ty : TypeId} {k : KK} {a : Act} {d : Option Tmp} {next : Act → World → Prop} (hS : RelS st w) (hv : RepW w st v c) (h : aNew ty v st k) (hn : Nxt st w k a d next) :
    next (a.put d (.pointer (some ⟨w.heap.size, 0, none⟩))) (w.alloc (.cells c.cells ty)) := by
  obtain ⟨h0, h1, hk⟩ := h
  have ha := Adds.alloc w (.cells c.cells ty)
  have hfr := hS.fresh
  rcases hk with hk | hk
  · have hb := blk_one (st := st) (ty := ty) (g := w.heap.size) (heap_alloc_new w _) ((ha.evo st).rep hv) h1 h0
    exact hn _ _ _ _ hk (fptr_of_blk hb hfr (by simp)) (hS.adds ha) (ha.evo st)
  have he := Evo.owned (x := ⟨ty, (cellsOf v).length, 1, fun _ => v⟩) hS ha (Nat.le_refl _)
  have hb := blk_one (ty := ty) (g := w.heap.size) (heap_alloc_new w _) (he.rep hv) h1 h0
  refine hn _ _ _ _ (hk w.heap.size hfr) ?_ (hS.owned ha (Nat.le_refl _) _ _ hb) he
  have := Rep.optr (rd := rdOf (w.alloc (.cells c.cells ty)) (upd st w.heap.size ⟨ty, (cellsOf v).length, 1, fun _ => v⟩)) (sz := szOf (w.alloc (.cells c.cells ty))) (cellsOf v).length w.heap.size 0 0
  simpa using this
theorem so_alloc {P : Program} {T : Tab} (hT : TOk P T) {o : Oper} {a : Act} {st : St} {w : World} {t : TypeId} {r : TRow} {k : KK} {next : Act → World → Prop} {Q : Exit → Act → World → Prop}
    (ho : o.op = .alloc t) (hr : T t = some r) (hS : RelS st w) (h : aNew t (avOf r.zero) st k) (hn : Nxt st w k a o.dst next) : o.wp P a w next Q := by
  have := new_ok hS (avOf_rep _ _ r.zero) h hn
  unfold Oper.wp
  simp only [execOp, ho, Instr.alloc, Sem.run_bind, TOk.zero hT hr w, Result.andThen_ok, newVar, newRow, run_newObj, Sem.run_pure, Oper.upon]
  exact this
theorem so_box {P : Program} {o : Oper} {A : List AV} {a : Act} {st : St} {w : World} {t : TypeId} {x : Operand} {k : KK} {next : Act → World → Prop} {Q : Exit → Act → World → Prop}
    (ho : o.op = .box t x) (hA : RelA w st A a) (hS : RelS st w) (h : aNew t (ev A x) st k) (hn : Nxt st w k a o.dst next) : o.wp P a w next Q := by
  have := new_ok hS (ev_rep hA x) h hn
  unfold Oper.wp
  simp only [execOp, ho, Instr.box, Sem.run_bind, Result.andThen_ok, newVar, newRow, run_newObj, Sem.run_pure, Oper.upon]
  exact this

/-! ### composite values -/
def aFill (place : Nat → Option (Nat × Nat)) (cells : List AV) : List (Nat × AV) → Option (List AV)
  | [] => some cells
  | (i, v) :: rest =>
    match place i with
    | none => none
    | some (off, size) =>
      if (cellsOf v).length ≠ size ∨ off + size > cells.length ∨ (cellsOf v).all AV.one = false ∨ size = 0 then none
      else aFill place (cells.take off ++ cellsOf v ++ cells.drop (off + size)) rest
theorem foldl_set (us : List Value) : ∀ (off : Nat) (j0 : Nat) (cells : Array Value), off + j0 + us.length ≤ cells.size →
    ((us.zipIdx j0).foldl (fun cs (p : Value × Nat) => cs.setIfInBounds (off + p.2) p.1) cells).toList = cells.toList.take (off + j0) ++ us ++ cells.toList.drop (off + j0 + us.length) := by
  induction us with
  | nil => intro off j0 cells h; simp
  | cons u us ih =>
    intro off j0 cells h
    simp only [List.zipIdx_cons, List.foldl_cons]
    simp only [List.length_cons] at h
    rw [ih off (j0 + 1) _ (by simp; omega)]
    simp only [Array.toList_setIfInBounds]
    have e1 : (cells.toList.set (off + j0) u).take (off + (j0 + 1)) = cells.toList.take (off + j0) ++ [u] := by
      rw [show off + (j0 + 1) = (off + j0) + 1 from by omega, List.take_succ_eq_append_getElem (by simp; omega), List.take_set_of_le (Nat.le_refl _)]
      simp
    have e2 : (cells.toList.set (off + j0) u).drop (off + (j0 + 1) + us.length) = cells.toList.drop (off + j0 + (u :: us).length) := by
      rw [List.drop_set_of_lt (by omega)]; congr 1; simp; omega
    rw [e1, e2]; simp
theorem fill_ok {w : World} {st : St} {place : Nat → Option (Nat × Nat)} : ∀ (ps : List (Nat × AV)) (qs : List (Nat × Value)) (cells : List AV) (us : Array Value) (out : List AV),
    ps.length = qs.length → (∀ (j : Nat) p q, ps[j]? = some p → qs[j]? = some q → p.1 = q.1 ∧ RepW w st p.2 q.2) → cells.length = us.size → (∀ (j : Nat) y c, cells[j]? = some y → us[j]? = some c → RepW w st y c) →
    aFill place cells ps = some out → ∃ vs, Instr.fill place us qs = some vs ∧ out.length = vs.size ∧ ∀ (j : Nat) y c, out[j]? = some y → vs[j]? = some c → RepW w st y c
  | [], qs, cells, us, out, hl, hp, hc, hr, h => by
    cases qs with
    | nil => simp only [aFill, Option.some.injEq] at h; subst h; exact ⟨us, rfl, hc, hr⟩
    | cons q qs => simp at hl
  | (i, v) :: ps, qs, cells, us, out, hl, hp, hc, hr, h => by
    cases qs with
    | nil => simp at hl
    | cons q qs =>
      obtain ⟨i', c⟩ := q
      obtain ⟨e1, e2⟩ := hp 0 (i, v) (i', c) rfl rfl
      simp only at e1 e2
      subst e1
      simp only [aFill] at h
      cases hpl : place i with
      | none => rw [hpl] at h; cases h
      | some os =>
        obtain ⟨off, size⟩ := os
        rw [hpl] at h
        simp only at h
        split at h
        · cases h
        · rename_i hcond
          simp only [not_or, Decidable.not_not, Bool.not_eq_false] at hcond
          obtain ⟨hlen, hroom, hone, hsz⟩ := hcond
          obtain ⟨u1, u2, u3⟩ := one_cells e2 hone (by omega)
          have hfold := foldl_set c.cells.toList off 0 us (by simp [u1, hlen]; omega)
          simp only [Nat.add_zero] at hfold
          have hz : (Array.foldl (fun cs (x : Value × Nat) => cs.setIfInBounds (off + x.2) x.1) us c.cells.zipIdx).toList = us.toList.take off ++ c.cells.toList ++ us.toList.drop (off + c.cells.toList.length) := by
            rw [← Array.foldl_toList, Array.toList_zipIdx]; exact hfold
          obtain ⟨vs, h1, h2, h3⟩ := fill_ok ps qs _ (Array.foldl (fun cs (x : Value × Nat) => cs.setIfInBounds (off + x.2) x.1) us c.cells.zipIdx) out (by simpa using hl) (fun j p q h1 h2 => hp (j + 1) p q (by simpa using h1) (by simpa using h2))
            (by rw [← Array.length_toList, hz]; simp [u1, hlen]; omega)
            (fun j y d hy hd => by
              rw [← Array.getElem?_toList, hz] at hd
              rcases Nat.lt_or_ge j off with hj | hj
              · rw [List.append_assoc, List.getElem?_append_left (by simp; omega), List.getElem?_take_of_lt hj] at hy hd
                exact hr j y d hy (by simpa using hd)
              · rcases Nat.lt_or_ge j (off + size) with hj2 | hj2
                · rw [List.append_assoc, List.getElem?_append_right (by simp; omega), List.getElem?_append_left (by simp; omega)] at hy hd
                  obtain ⟨u, hu1, hu2⟩ := u3 _ y hy
                  have e3 : min off us.size = min off cells.length := by omega
                  simp only [List.length_take, Array.length_toList, Array.getElem?_toList] at hd hu1
                  rw [e3] at hd
                  rw [hu1] at hd; cases hd; exact hu2
                · rw [List.getElem?_append_right (by simp; omega), List.getElem?_drop] at hy hd
                  refine hr _ y d hy ?_
                  rw [← hd, Array.getElem?_toList]
                  congr 1; simp [u1, hlen]; omega) h
          refine ⟨vs, ?_, h2, h3⟩
          simp only [Instr.fill, hpl]
          rw [if_neg (by simp [u1, hlen]; omega)]
          exact h1
def places (T : Tab) : List Field → Option (List (Nat × Nat))
  | [] => some []
  | f :: fs => match T f.type, places T fs with
    | some q, some r => some ((f.offset, q.size) :: r)
    | _, _ => none
theorem places_ok {P : Program} {T : Tab} (hT : TOk P T) : ∀ (fs : List Field) (pl : List (Nat × Nat)), places T fs = some pl → fs.mapM (fun f => (P.info? f.type).map fun i => (f.offset, i.size)) = some pl
  | [], pl, h => by simp [places] at h; subst h; simp
  | f :: fs, pl, h => by
    simp only [places] at h
    split at h
    case h_2 => cases h
    rename_i q r hq hr
    cases h
    obtain ⟨_, i, hi, hs, _⟩ := hT _ _ hq
    simp [List.mapM_cons, hi, hs, places_ok hT fs r hr]
def aBuild (T : Tab) (t : TypeId) (ps : List (Nat × AV)) (k : AV → Prop) : Prop :=
  match T t with
  | none => False
  | some r => match r.desc with
    | .struct fs => match places T fs.toList with
      | none => False
      | some pl => match aFill (fun i => pl[i]?) (cellsOf (avOf r.zero)) ps with
        | some out => k (.agg out)
        | none => False
    | .array n el => match T el with
      | none => False
      | some q => match aFill (fun i => some (i * q.size, q.size)) (cellsOf (avOf r.zero)) ps with
        | some out => k (.agg out)
        | none => False
    | _ => False
def evP (A : List AV) (ps : Array (Nat × Operand)) : List (Nat × AV) := ps.toList.map fun p => (p.1, ev A p.2)
theorem evP_ok {w : World} {st : St} {A : List AV} {a : Act} (hA : RelA w st A a) (ps : Array (Nat × Operand)) :
    (evP A ps).length = (ps.map fun (i, x) => (i, a.eval x)).toList.length ∧ ∀ (j : Nat) p q, (evP A ps)[j]? = some p → (ps.map fun (i, x) => (i, a.eval x)).toList[j]? = some q → p.1 = q.1 ∧ RepW w st p.2 q.2 := by
  refine ⟨by simp [evP], fun j p q hp hq => ?_⟩
  simp only [evP, List.getElem?_map, Array.toList_map, Array.getElem?_toList] at hp hq
  cases hj : ps[j]? with
  | none => rw [hj] at hp; cases hp
  | some x =>
    rw [hj] at hp hq
    cases hp; cases hq
    exact ⟨rfl, ev_rep hA x.2⟩
theorem avOf_cells {rd : Addr → Option Value} {sz : Nat → Nat} {z : Value} (h : (cellsOf (avOf z)).length = z.cells.size) : ∀ (j : Nat) y c, (cellsOf (avOf z))[j]? = some y → z.cells[j]? = some c → Rep rd sz y c := by
  intro j y c hy hc
  have hr := avOf_rep rd sz z
  generalize avOf z = v at *
  by_cases hv : v.one = true
  · obtain ⟨_, e2, e3⟩ := hr.one hv
    rw [e2] at hc
    rw [e3] at hy
    cases j with
    | zero => simp at hy hc; subst hy; subst hc; exact hr
    | succ j => simp at hy
  · cases hr with
    | agg cs vs hl hg => exact hg j y c hy hc
    | tuple cs vs hl hg => simp [cellsOf] at hy
    | junk c => simp [cellsOf] at hy
    | _ => exact absurd rfl hv
def zOk (r : TRow) : Prop := (cellsOf (avOf r.zero)).length = r.zero.cells.size
theorem so_build {P : Program} {T : Tab} (hT : TOk P T) (hz : ∀ t r, T t = some r → zOk r) {o : Oper} {A : List AV} {a : Act} {st : St} {w : World} {t : TypeId} {ps : Array (Nat × Operand)} {k : KK} {next : Act → World → Prop} {Q : Exit → Act → World → Prop}
    (ho : o.op = .build t ps) (hA : RelA w st A a) (hS : RelS st w) (h : aBuild T t (evP A ps) (fun v => k v st)) (hn : Nxt st w k a o.dst next) : o.wp P a w next Q := by
  obtain ⟨hl, hp⟩ := evP_ok hA ps
  suffices hmain : ∃ out vs, k (.agg out) st ∧ P.built t (ps.map fun (i, x) => (i, a.eval x)).toList = some vs ∧ RepW w st (.agg out) (.agg vs) by
    obtain ⟨out, vs, h1, h2, h3⟩ := hmain
    refine so_pure (c := .agg vs) ?_ hS h3 h1 hn
    have hr := run_build (P := P) w t (ps.map fun (i, x) => (i, a.eval x)) vs h2
    simp only [execOp, ho, Sem.run_bind, hr, Result.andThen_ok, Sem.run_pure]
  unfold aBuild at h
  split at h
  · exact h.elim
  rename_i r hr
  obtain ⟨hu, i, hi, _, _, hiz⟩ := hT t r hr
  split at h
  · rename_i fs hd
    split at h
    · exact h.elim
    rename_i pl hpl
    split at h
    case h_2 => exact h.elim
    rename_i out hout
    obtain ⟨vs, h1, h2, h3⟩ := fill_ok _ _ _ r.zero.cells out hl hp (hz t r hr) (avOf_cells (hz t r hr)) hout
    refine ⟨out, vs, h, ?_, .agg _ _ h2 h3⟩
    rw [hd] at hu
    unfold Program.built
    simp only [hi, hu, hiz, places_ok hT _ _ hpl]
    rw [show (fun x => pl.toArray[x]?) = fun i => pl[i]? from funext fun x => by simp]
    exact h1
  · rename_i n el hd
    split at h
    · exact h.elim
    rename_i q hq
    obtain ⟨_, i', hi', hs', _⟩ := hT el q hq
    split at h
    case h_2 => exact h.elim
    rename_i out hout
    obtain ⟨vs, h1, h2, h3⟩ := fill_ok _ _ _ r.zero.cells out hl hp (hz t r hr) (avOf_cells (hz t r hr)) hout
    refine ⟨out, vs, h, ?_, .agg _ _ h2 h3⟩
    rw [hd] at hu
    unfold Program.built
    simp only [hi, hu, hiz, hi', hs']
    exact h1
  · exact h.elim

/-! ### new rows -/
def groupA (agg : Bool) (e len : Nat) (out : List AV) : List AV := (List.range len).map fun i => if agg then .agg ((out.drop (i * e)).take e) else out.getD i .junk
theorem groupA_cells {agg : Bool} {e len : Nat} {out : List AV} (hlen : out.length = len * e) (hone : out.all AV.one = true) (h1 : agg = false → e = 1) {i : Nat} (hi : i < len) :
    (cellsOf ((groupA agg e len out).getD i .junk)).length = e ∧ (cellsOf ((groupA agg e len out).getD i .junk)).all AV.one = true ∧ ∀ j : Nat, j < e → (cellsOf ((groupA agg e len out).getD i .junk))[j]? = out[i * e + j]? := by
  have hroom : i * e + e ≤ len * e := by
    have : (i + 1) * e ≤ len * e := Nat.mul_le_mul_right _ hi
    rw [Nat.add_mul] at this; omega
  have hg : (groupA agg e len out).getD i .junk = if agg then .agg ((out.drop (i * e)).take e) else out.getD i .junk := by
    simp [groupA, hi]
  rw [hg]
  simp only [List.all_eq_true] at hone
  cases agg with
  | true =>
    refine ⟨by simp [cellsOf]; omega, ?_, fun j hj => ?_⟩
    · simp only [if_true, cellsOf, List.all_eq_true]
      intro z hz
      exact hone _ (List.mem_of_mem_drop (List.mem_of_mem_take hz))
    · simp only [if_true, cellsOf]
      rw [List.getElem?_take_of_lt hj, List.getElem?_drop]
  | false =>
    have he := h1 rfl
    subst he
    have hlt : i < out.length := by omega
    have hv : out.getD i .junk = out[i] := by simp [List.getElem?_eq_getElem hlt]
    have ho := hone _ (List.getElem_mem hlt)
    have hc : cellsOf out[i] = [out[i]] := by
      revert ho; cases out[i] <;> simp [AV.one, cellsOf]
    simp only [Bool.false_eq_true, if_false, hv, hc]
    refine ⟨rfl, by simp [ho], fun j hj => ?_⟩
    obtain rfl : j = 0 := by omega
    simp [List.getElem?_eq_getElem hlt]
def aBuildSlice (T : Tab) (t : TypeId) (len : Nat) (ps : List (Nat × AV)) (st : St) (k : KK) : Prop :=
  match T t with
  | none => False
  | some r => match r.desc with
    | .slice el => match T el with
      | none => False
      | some q => 0 < len * q.size ∧ len * q.size ≤ 16777216 ∧ q.zero.cells.size = q.size ∧ (q.agg = false → q.size = 1) ∧
        match aFill (fun i => some (i * q.size, q.size)) ((List.range (len * q.size)).map fun i => (cellsOf (avOf q.zero)).getD (i % q.size) .junk) ps with
        | some out => out.all AV.one = true ∧ (k (.arr q.size len (fun i => (groupA q.agg q.size len out).getD i .junk)) st ∨
            ∀ b, st b = none → k (.own q.size b 0 len) (upd st b ⟨el, q.size, len, fun i => (groupA q.agg q.size len out).getD i .junk⟩))
        | none => False
    | _ => False
theorem aFill_length {place : Nat → Option (Nat × Nat)} : ∀ (ps : List (Nat × AV)) (cells out : List AV), aFill place cells ps = some out → out.length = cells.length
  | [], cells, out, h => by simp only [aFill, Option.some.injEq] at h; rw [h]
  | (i, v) :: ps, cells, out, h => by
    simp only [aFill] at h
    split at h
    · cases h
    · split at h
      · cases h
      · rename_i hcond
        simp only [not_or, Decidable.not_not, Bool.not_eq_false] at hcond
        rw [aFill_length ps _ out h]; simp; omega
theorem row_ok {w : World} {st : St} {g : Nat} {ty : TypeId} {agg : Bool} {e len : Nat} {out : List AV} {vs : Array Value} (hg : w.heap[g]? = some (.cells vs ty (0, 0))) (hlen : out.length = len * e) (hsz : len * e ≤ vs.size) (hone : out.all AV.one = true)
    (h1 : agg = false → e = 1) (hr : ∀ (j : Nat) y c, out[j]? = some y → vs[j]? = some c → RepW w st y c) :
    BlkOk w st g ⟨ty, e, len, fun i => (groupA agg e len out).getD i .junk⟩ vs := by
  refine ⟨hg, hsz, fun i hi => (groupA_cells hlen hone h1 hi).1, fun i hi => (groupA_cells hlen hone h1 hi).2.1, fun i j y hi hy => ?_⟩
  obtain ⟨a1, a2, a3⟩ := groupA_cells hlen hone h1 hi
  have hj : j < e := by rw [← a1]; exact (List.getElem?_eq_some_iff.1 hy).1
  have hpos := mul_add_lt hi hj
  have hy' : out[i * e + j]? = some y := by rw [← a3 j hj]; exact hy
  exact ⟨vs[i * e + j], Array.getElem?_eq_getElem (by simp only at hpos ⊢; omega), hr _ _ _ hy' (Array.getElem?_eq_getElem (by simp only at hpos ⊢; omega))⟩
/-- A block that nobody writes any more, as a slice. -/
theorem arr_of_blk {w : World} {st : St} {g : Nat} {x : Blk} {cs : Array Value} (hok : BlkOk w st g x cs) (hst : st g = none) (off n : Nat) (hn : off + n ≤ x.n) (c : Nat) (hc : n ≤ c) :
    RepW w st (.arr x.e n (fun i => x.f (off + i))) (.slice (some ⟨g, off * x.e, none⟩) n c) := by
  have hex : ∀ i j, ∃ u, i < n → j < x.e → cs[(off + i) * x.e + j]? = some u ∧ ∀ y, (cellsOf (x.f (off + i)))[j]? = some y → RepW w st y u := by
    intro i j
    by_cases hij : i < n ∧ j < x.e
    · obtain ⟨hi, hj⟩ := hij
      have hlen := hok.len (off + i) (by omega)
      obtain ⟨u, hu1, hu2⟩ := hok.cell (off + i) j ((cellsOf (x.f (off + i)))[j]'(by omega)) (by omega) (List.getElem?_eq_getElem (by omega))
      refine ⟨u, fun _ _ => ⟨hu1, fun y hy => ?_⟩⟩
      rw [List.getElem?_eq_getElem (by omega)] at hy
      cases hy; exact hu2
    · exact ⟨undef, fun h1 h2 => absurd ⟨h1, h2⟩ hij⟩
  have hex2 := fun i => Classical.axiomOfChoice (hex i)
  obtain ⟨g', hg'⟩ := Classical.axiomOfChoice hex2
  refine .arr _ _ _ _ _ g' hc (fun _ => ⟨_, rfl⟩) (fun i hi => hok.len _ (by omega)) (fun i hi => hok.one _ (by omega)) (fun a ha i j hi hj => ?_) (fun i j y hi hy => ?_)
  · cases ha
    rw [Addr.add_lit]
    unfold rdOf
    simp only [hst]
    rw [cell_of_row w g _ cs x.ty (0, 0) hok.heap, ← Nat.add_assoc, ← Nat.add_mul]
    exact (hg' i j hi hj).1
  · have hj : j < x.e := by rw [← hok.len (off + i) (by omega)]; exact (List.getElem?_eq_some_iff.1 hy).1
    exact (hg' i j hi hj).2 y hy
theorem so_buildSlice {P : Program} {T : Tab} (hT : TOk P T) (hz : ∀ t r, T t = some r → zOk r) {o : Oper} {A : List AV} {a : Act} {st : St} {w : World} {t : TypeId} {len : Nat} {ps : Array (Nat × Operand)} {k : KK} {next : Act → World → Prop} {Q : Exit → Act → World → Prop}
    (ho : o.op = .buildSlice t len ps) (hA : RelA w st A a) (hS : RelS st w) (h : aBuildSlice T t len (evP A ps) st k) (hn : Nxt st w k a o.dst next) : o.wp P a w next Q := by
  obtain ⟨hl, hp⟩ := evP_ok hA ps
  unfold aBuildSlice at h
  split at h
  · exact h.elim
  rename_i r hr
  obtain ⟨hu, _⟩ := hT t r hr
  split at h
  case h_2 => exact h.elim
  rename_i el hd
  rw [hd] at hu
  split at h
  · exact h.elim
  rename_i q hq
  obtain ⟨_, i, hi, his, _, hiz⟩ := hT el q hq
  obtain ⟨hpos, hsmall, hzs, h1, h⟩ := h
  split at h
  case h_2 => exact h.elim
  rename_i out hout
  obtain ⟨hone, hk⟩ := h
  have hq0 : 0 < q.size := Nat.pos_of_ne_zero fun e => by rw [e] at hpos; simp at hpos
  have hzl : (cellsOf (avOf q.zero)).length = q.size := by rw [hz el q hq, hzs]
  obtain ⟨vs, f1, f2, f3⟩ := fill_ok (w := w) (st := st) _ _ _ ((Array.range (len * q.size)).map (q.zero.cells[· % q.zero.cells.size]!)) out hl hp (by simp) (fun j y c hy hc => by
    have hj : j < len * q.size := by have := (List.getElem?_eq_some_iff.1 hy).1; simpa using this
    have hm : j % q.size < q.size := Nat.mod_lt _ hq0
    simp only [List.getElem?_map, List.getElem?_range hj, Option.map_some, Option.some.injEq] at hy
    simp [hj] at hc
    subst hy; subst hc
    refine avOf_cells (hz el q hq) (j % q.size) _ _ ?_ ?_
    · rw [List.getD_eq_getElem?_getD, List.getElem?_eq_getElem (by omega)]; rfl
    · rw [hzs]; simp [getElem!_def, Array.getElem?_eq_getElem (show j % q.size < q.zero.cells.size by omega)]) hout
  have hol : out.length = len * q.size := by rw [aFill_length _ _ _ hout]; simp
  have hrun := run_buildSlice (P := P) w t el len (ps.map fun (i, x) => (i, a.eval x)) vs i q.zero hu hi hiz (by rw [his]; omega) (by rw [his]; omega) (by rw [his]; exact f1)
  have hal := Adds.alloc w (.cells vs el)
  suffices hmain : next (a.put o.dst (.slice (some ⟨w.heap.size, 0, none⟩) len len)) (w.alloc (.cells vs el)) by
    unfold Oper.wp
    simp only [execOp, ho, Sem.run_bind, hrun, Result.andThen_ok, Sem.run_pure, Oper.upon]
    exact hmain
  have hvs : len * q.size ≤ vs.size := by rw [← f2, hol]; exact Nat.le_refl _
  rcases hk with hk | hk
  · have hok := row_ok (w := w.alloc (.cells vs el)) (st := st) (g := w.heap.size) (agg := q.agg) (heap_alloc_new w _) hol hvs hone h1 (fun j y c hy hc => (hal.evo st).rep (f3 j y c hy hc))
    refine hn _ _ _ _ hk ?_ (hS.adds hal) (hal.evo st)
    have := arr_of_blk hok hS.fresh 0 len (by simp) len (Nat.le_refl _)
    simpa using this
  · have he := Evo.owned (x := ⟨el, q.size, len, fun i => (groupA q.agg q.size len out).getD i .junk⟩) hS hal (Nat.le_refl _)
    have hok := row_ok (w := w.alloc (.cells vs el)) (st := upd st w.heap.size ⟨el, q.size, len, fun i => (groupA q.agg q.size len out).getD i .junk⟩) (g := w.heap.size) (agg := q.agg) (heap_alloc_new w _) hol hvs hone h1 (fun j y c hy hc => he.rep (f3 j y c hy hc))
    refine hn _ _ _ _ (hk _ hS.fresh) ?_ (hS.owned hal (Nat.le_refl _) _ _ hok) he
    have : RepW (w.alloc (.cells vs el)) (upd st w.heap.size ⟨el, q.size, len, fun i => (groupA q.agg q.size len out).getD i .junk⟩) (.own q.size w.heap.size 0 len) (.slice (some ⟨w.heap.size, 0 * q.size, none⟩) len len) :=
      .own _ _ _ _ _ (Nat.le_refl _) (by unfold szOf; rw [heap_alloc_new]; simpa using hvs)
    simpa using this
/-- A row of no element. -/
def aRow0 (T : Tab) (t : TypeId) (ps : List (Nat × AV)) (st : St) (k : KK) : Prop :=
  match T t with
  | none => False
  | some r => match r.desc with
    | .slice el => match T el with
      | none => False
      | some _ => match ps with
        | [] => k .emp st
        | _ :: _ => False
    | _ => False
theorem so_row0 {P : Program} {T : Tab} (hT : TOk P T) {o : Oper} {A : List AV} {a : Act} {st : St} {w : World} {t : TypeId} {ps : Array (Nat × Operand)} {k : KK} {next : Act → World → Prop} {Q : Exit → Act → World → Prop}
    (ho : o.op = .buildSlice t 0 ps) (hA : RelA w st A a) (hS : RelS st w) (h : aRow0 T t (evP A ps) st k) (hn : Nxt st w k a o.dst next) : o.wp P a w next Q := by
  unfold aRow0 at h
  split at h
  · exact h.elim
  rename_i r hr
  obtain ⟨hu, _⟩ := hT t r hr
  split at h
  case h_2 => exact h.elim
  rename_i el hd
  rw [hd] at hu
  split at h
  · exact h.elim
  rename_i q hq
  obtain ⟨_, i, hi, his, _, hiz⟩ := hT el q hq
  split at h
  case h_2 => exact h.elim
  rename_i hps
  have hp0 : ps = #[] := by
    unfold evP at hps
    rw [List.map_eq_nil_iff] at hps
    exact Array.toList_eq_nil_iff.1 hps
  subst hp0
  have hrun : (Instr.buildSlice t 0 #[]).run P w = .ok (.slice (some ⟨w.heap.size, 0, none⟩) 0 0) (w.alloc (.cells #[] el)) := by
    simp [Instr.buildSlice, run_underlying hu, sizeOf, typeInfo, hi, Instr.fill, newRow]
    have e : ∀ f : Nat → Value, Array.map f (Array.range 0) = #[] := fun f => Array.eq_empty_of_size_eq_zero (by simp)
    rw [e]
  have hal := Adds.alloc w (.cells #[] el)
  unfold Oper.wp
  simp only [execOp, ho, Sem.run_bind, Array.map_empty, hrun, Result.andThen_ok, Sem.run_pure, Oper.upon]
  exact hn _ _ _ _ h (.emp _) (hS.adds hal) (hal.evo st)
def aMake (T : Tab) (t : TypeId) (l c : AV) (st : St) (k : KK) : Prop :=
  match T t with
  | none => False
  | some r => match r.desc with
    | .slice el => match T el with
      | none => False
      | some q => match l, c with
        | .int _ n, .int _ m => n = m ∧ 0 ≤ n ∧ (q.bytes : Int) * n ≤ 281474976710656 ∧ n ≤ 9223372036854775807 ∧ q.zero.cells.size = q.size ∧ (cellsOf (avOf q.zero)).all AV.one = true ∧
          ∀ b, st b = none → k (.own q.size b 0 n.toNat) (upd st b ⟨el, q.size, n.toNat, fun _ => avOf q.zero⟩)
        | _, _ => False
    | _ => False
theorem so_makeSlice {P : Program} {T : Tab} (hT : TOk P T) (hz : ∀ t r, T t = some r → zOk r) {o : Oper} {A : List AV} {a : Act} {st : St} {w : World} {t : TypeId} {l c : Operand} {k : KK} {next : Act → World → Prop} {Q : Exit → Act → World → Prop}
    (ho : o.op = .makeSlice t l c) (hA : RelA w st A a) (hS : RelS st w) (h : aMake T t (ev A l) (ev A c) st k) (hn : Nxt st w k a o.dst next) : o.wp P a w next Q := by
  unfold aMake at h
  split at h
  · exact h.elim
  rename_i r hr
  obtain ⟨hu, _⟩ := hT t r hr
  split at h
  case h_2 => exact h.elim
  rename_i el hd
  rw [hd] at hu
  split at h
  · exact h.elim
  rename_i q hq
  obtain ⟨_, i, hi, his, hib, hiz⟩ := hT el q hq
  have hx := ev_rep hA l
  have hy := ev_rep hA c
  split at h
  case h_2 => exact h.elim
  rename_i kl n kc m hl hc
  rw [hl] at hx
  rw [hc] at hy
  generalize hlv : a.eval l = lv at hx
  generalize hcv : a.eval c = cv at hy
  cases hx
  cases hy
  obtain ⟨rfl, h0, hbytes, h63, hzs, hone, hk⟩ := h
  have hrun := run_make (P := P) w t el i q.zero hu hi hiz kl kc n n h0 (Int.le_refl _) (by rw [hib]; exact hbytes) h63
  have hal := Adds.alloc w (.cells (madeCells q.zero.cells (n.toNat * i.size)) el)
  have hzl : (cellsOf (avOf q.zero)).length = q.size := by rw [hz el q hq, hzs]
  have he := Evo.owned (x := ⟨el, q.size, n.toNat, fun _ => avOf q.zero⟩) hS hal (Nat.le_refl _)
  have hok : BlkOk (w.alloc (.cells (madeCells q.zero.cells (n.toNat * i.size)) el)) (upd st w.heap.size ⟨el, q.size, n.toNat, fun _ => avOf q.zero⟩) w.heap.size ⟨el, q.size, n.toNat, fun _ => avOf q.zero⟩ (madeCells q.zero.cells (n.toNat * i.size)) := by
    refine ⟨heap_alloc_new w _, by simp [size_madeCells, his], fun _ _ => hzl, fun _ _ => hone, fun i' j y hi' hy => ?_⟩
    have hj : j < q.size := by rw [← hzl]; exact (List.getElem?_eq_some_iff.1 hy).1
    have hpos := mul_add_lt hi' hj
    have hmod : (i' * q.size + j) % q.size = j := by rw [Nat.mul_comm, Nat.mul_add_mod]; exact Nat.mod_eq_of_lt hj
    refine ⟨q.zero.cells[j]'(by omega), ?_, avOf_cells (hz el q hq) j y _ hy (Array.getElem?_eq_getElem (by omega))⟩
    simp only [madeCells]
    rw [Array.getElem?_map, Array.getElem?_range, if_pos (by rw [his]; simpa using hpos)]
    simp only [Option.map_some, hzs, hmod]
    rw [getElem!_pos q.zero.cells j (by omega)]
  unfold Oper.wp
  simp only [execOp, ho, Sem.run_bind, hlv, hcv, hrun, Result.andThen_ok, Sem.run_pure, Oper.upon]
  refine hn _ _ _ _ (hk _ hS.fresh) ?_ (hS.owned hal (Nat.le_refl _) _ _ hok) he
  have : RepW (w.alloc (.cells (madeCells q.zero.cells (n.toNat * i.size)) el)) (upd st w.heap.size ⟨el, q.size, n.toNat, fun _ => avOf q.zero⟩) (.own q.size w.heap.size 0 n.toNat) (.slice (some ⟨w.heap.size, 0 * q.size, none⟩) n.toNat n.toNat) :=
    .own _ _ _ _ _ (Nat.le_refl _) (by unfold szOf; rw [heap_alloc_new]; simp [size_madeCells, his])
  simpa using this
end Go.Ab
/- The abstract machine, part 6: slicing, len, min, max, append. -/
set_option linter.unusedVariables false
set_option linter.unusedSimpArgs false
namespace Go.Ab
open Go

/-! ### slicing -/
def bndO (x : Option AV) (d : Int) : Option Int :=
  match x with
  | none => some d
  | some v => match v with | .int _ n => some n | _ => none
def aSlice (T : Tab) (t : TypeId) (x : AV) (lo hi mx : Option AV) (k : AV → Prop) : Prop :=
  match T t with
  | none => False
  | some r => match r.desc with
    | .slice el => match T el with
      | none => False
      | some q => match mx with
        | some m => (match x with | .arr .. => True | .own .. => True | .emp => True | _ => False) ∧ bndO lo 0 = some 0 ∧ bndO hi 1 = some 0 ∧ bndO (some m) 1 = some 0 ∧ k .emp
        | none => match x with
          | .arr e n f => match bndO lo 0, bndO hi n with
            | some l, some h => q.size = e ∧ (0 ≤ l ∧ l ≤ h ∧ h ≤ n) ∧ k (.arr e (h - l).toNat (fun i => f (l.toNat + i)))
            | _, _ => False
          | .own e b off n => match bndO lo 0, bndO hi n with
            | some l, some h => q.size = e ∧ (0 ≤ l ∧ l ≤ h ∧ h ≤ n) ∧ (l = 0 ∨ l < h) ∧ k (.own e b (off + l.toNat) (h - l).toNat)
            | _, _ => False
          | .emp => match bndO lo 0, bndO hi 0 with
            | some l, some h => l = 0 ∧ h = 0 ∧ k .emp
            | _, _ => False
          | _ => False
    | .string => match mx, x with
      | none, .str s => match bndO lo 0, bndO hi s.size with
        | some l, some h => (0 ≤ l ∧ l ≤ h ∧ h ≤ s.size) ∧ k (.str (s.extract l.toNat h.toNat))
        | _, _ => False
      | _, _ => False
    | _ => False
def BV (xv : Option Value) (d n : Int) : Prop := (xv = none ∧ n = d) ∨ ∃ kk, xv = some (.int kk n)
theorem bnd_val {w : World} {st : St} {A : List AV} {a : Act} (hA : RelA w st A a) {x : Option Operand} {d n : Int} (h : bndO (x.map (ev A)) d = some n) : BV (x.map a.eval) d n := by
  cases x with
  | none => simp only [Option.map_none, bndO, Option.some.injEq] at h; exact .inl ⟨rfl, h.symm⟩
  | some y =>
    simp only [Option.map_some, bndO] at h
    split at h
    · rename_i kk m hv
      cases h
      have hr := ev_rep hA y
      rw [hv] at hr
      generalize hyv : a.eval y = yv at hr
      cases hr
      exact .inr ⟨kk, by simp [hyv]⟩
    · cases h
theorem run_bound {P : Program} {w : World} {k : IntKind} {n : Int} {m : Nat} {c : BoundsCode} (h : 0 ≤ n ∧ n ≤ m) : (Instr.sliceBound (.int k n) m c).run P w = .ok n.toNat w := by
  simp only [Instr.sliceBound, asIntOf, Sem.run_bind, Sem.run_pure, Result.andThen_ok]
  rw [if_pos h]; rfl
theorem run_bounds2 {P : Program} {w : World} {len cap : Nat} {lo hi : Option Value} {l h : Int} (hlo : BV lo 0 l) (hhi : BV hi len h) (b : Bool)
    (hlc : len ≤ cap) (h0 : 0 ≤ l ∧ l ≤ h ∧ h ≤ len) : (Instr.sliceBounds b len cap lo hi none).run P w = .ok (l.toNat, h.toNat, cap) w := by
  obtain ⟨h1, h2, h3⟩ := h0
  rcases hhi with ⟨rfl, rfl⟩ | ⟨k2, rfl⟩
  · rcases hlo with ⟨rfl, rfl⟩ | ⟨k1, rfl⟩
    · simp [Instr.sliceBounds]
    · simp only [Instr.sliceBounds, Sem.run_bind, Sem.run_pure, Result.andThen_ok, run_bound (⟨h1, h2⟩ : 0 ≤ l ∧ l ≤ ((len : Nat) : Int)), Int.toNat_natCast]
  · have e1 : 0 ≤ h ∧ h ≤ ((cap : Nat) : Int) := ⟨by omega, by omega⟩
    have e2 : ((h.toNat : Nat) : Int) = h := by omega
    rcases hlo with ⟨rfl, rfl⟩ | ⟨k1, rfl⟩
    · simp [Instr.sliceBounds, run_bound e1]
    · have e3 : 0 ≤ l ∧ l ≤ ((h.toNat : Nat) : Int) := ⟨h1, by omega⟩
      simp only [Instr.sliceBounds, Sem.run_bind, Sem.run_pure, Result.andThen_ok, run_bound e1]
      simp [run_bound e3]
theorem run_bounds3 {P : Program} {w : World} {len cap : Nat} {lo : Option Value} {k2 k3 : IntKind} (hlo : BV lo 0 0) (b : Bool) : (Instr.sliceBounds b len cap lo (some (.int k2 0)) (some (.int k3 0))).run P w = .ok (0, 0, 0) w := by
  have e1 : (0 : Int) ≤ 0 ∧ (0 : Int) ≤ ((cap : Nat) : Int) := ⟨by omega, by omega⟩
  have e2 : (0 : Int) ≤ 0 ∧ (0 : Int) ≤ (((0 : Int).toNat : Nat) : Int) := ⟨by omega, by omega⟩
  rcases hlo with ⟨rfl, _⟩ | ⟨k1, rfl⟩
  · simp [Instr.sliceBounds, run_bound e1, run_bound (⟨by omega, by omega⟩ : (0 : Int) ≤ 0 ∧ (0 : Int) ≤ ((0 : Nat) : Int))]
  · simp [Instr.sliceBounds, run_bound e1, run_bound (⟨by omega, by omega⟩ : (0 : Int) ≤ 0 ∧ (0 : Int) ≤ ((0 : Nat) : Int))]
theorem BV.int {xv : Option Value} {n : Int} (h : BV xv 1 n) (hn : n = 0) : ∃ kk, xv = some (.int kk 0) := by
  subst hn
  rcases h with ⟨_, h⟩ | ⟨kk, h⟩
  · omega
  · exact ⟨kk, h⟩
theorem so_slice {P : Program} {T : Tab} (hT : TOk P T) {o : Oper} {A : List AV} {a : Act} {st : St} {w : World} {t : TypeId} {x : Operand} {lo hi mx : Option Operand} {k : KK} {next : Act → World → Prop} {Q : Exit → Act → World → Prop}
    (ho : o.op = .slice t x lo hi mx) (hA : RelA w st A a) (hS : RelS st w) (h : aSlice T t (ev A x) (lo.map (ev A)) (hi.map (ev A)) (mx.map (ev A)) (fun v => k v st)) (hn : Nxt st w k a o.dst next) : o.wp P a w next Q := by
  suffices hmain : ∃ v c, k v st ∧ RepW w st v c ∧ (Instr.sliceAt t (a.eval x) (lo.map a.eval) (hi.map a.eval) (mx.map a.eval)).run P w = .ok c w by
    obtain ⟨v, c, hk, hv, hrun⟩ := hmain
    refine so_pure (c := c) ?_ hS hv hk hn
    simp only [execOp, ho, Sem.run_bind, hrun, Result.andThen_ok, Sem.run_pure]
  unfold aSlice at h
  split at h
  · exact h.elim
  rename_i r hr
  have hund := TOk.und hT hr w
  have hx := ev_rep hA x
  generalize hxv : a.eval x = cx at hx
  generalize ev A x = ax at h hx
  split at h
  case h_3 => exact h.elim
  · rename_i el hd
    rw [hd] at hund
    split at h
    · exact h.elim
    rename_i q hq
    have hsz := TOk.sizeOf hT hq w
    split at h
    · rename_i m hm
      obtain ⟨hform, hlo, hhi, hmx, hk⟩ := h
      rw [← hm] at hmx
      have blo := bnd_val hA hlo
      obtain ⟨k2, bhi⟩ := (bnd_val hA hhi).int rfl
      obtain ⟨k3, bmx⟩ := (bnd_val hA hmx).int rfl
      refine ⟨.emp, ?_⟩
      rw [bhi, bmx]
      have hsl : ∃ p n c, cx = .slice p n c := by
        cases hx <;> first | exact ⟨_, _, _, rfl⟩ | exact hform.elim
      obtain ⟨p, n, c, rfl⟩ := hsl
      refine ⟨.slice p 0 0, hk, .emp p, ?_⟩
      simp [Instr.sliceAt, Instr.slice, hund, run_bounds3 blo, hsz]
    · rename_i hm
      have hmn : mx.map a.eval = none := by
        cases mx with
        | none => rfl
        | some y => simp at hm
      rw [hmn]
      split at h
      · rename_i e n f
        split at h
        case h_2 => exact h.elim
        rename_i l hh hlo hhi
        obtain ⟨he, hb, hk⟩ := h
        have blo := bnd_val hA hlo
        have bhi := bnd_val hA hhi
        cases hx with
        | arr e n f p c g hc hA' hl ho' hr' hg' =>
          refine ⟨_, .slice (if c = l.toNat then p else p.map (·.add (l.toNat * q.size))) (hh.toNat - l.toNat) (c - l.toNat), hk, ?_, ?_⟩
          · have hsub : (hh - l).toNat = hh.toNat - l.toNat := by omega
            rw [hsub]
            refine .arr _ _ _ _ _ (fun i j => g (l.toNat + i) j) (by omega) (fun hpos => ?_) (fun i hi => hl _ (by omega)) (fun i hi => ho' _ (by omega)) (fun ad had i j hi hj => ?_) (fun i j y hi hy => hg' _ _ _ (by omega) hy)
            · obtain ⟨ad, rfl⟩ := hA' (by omega)
              rw [if_neg (by omega)]; exact ⟨_, rfl⟩
            · obtain ⟨ad', rfl⟩ := hA' (by omega)
              rw [if_neg (by omega)] at had
              cases had
              rw [add_add, he, ← Nat.add_assoc, ← Nat.add_mul]
              exact hr' ad' rfl _ _ (by omega) hj
          · simp [Instr.sliceAt, Instr.slice, hund, run_bounds2 blo bhi true hc hb, hsz]
      · rename_i e b off n
        split at h
        case h_2 => exact h.elim
        rename_i l hh hlo hhi
        obtain ⟨he, hb, hlh, hk⟩ := h
        have blo := bnd_val hA hlo
        have bhi := bnd_val hA hhi
        cases hx with
        | own e b off n c hc hs =>
          refine ⟨_, .slice (some ⟨b, (off + l.toNat) * e, none⟩) (hh.toNat - l.toNat) (c - l.toNat), hk, ?_, ?_⟩
          · have hsub : (hh - l).toNat = hh.toNat - l.toNat := by omega
            rw [hsub]
            refine .own _ _ _ _ _ (by omega) ?_
            rw [show off + l.toNat + (c - l.toNat) = off + c from by omega]; exact hs
          · have hif : (if c = l.toNat then some (⟨b, off * e, none⟩ : Addr) else (some (⟨b, off * e, none⟩ : Addr)).map (·.add (l.toNat * q.size))) = some ⟨b, (off + l.toNat) * e, none⟩ := by
              split
              · have : l.toNat = 0 := by omega
                rw [this]; simp
              · simp only [Option.map_some, Addr.add_lit, he, Nat.add_mul]
            simp only [Instr.sliceAt, Instr.slice, hund, Sem.run_bind, Result.andThen_ok, run_bounds2 blo bhi true hc hb, hsz, Sem.run_pure]
            rw [hif]
      · split at h
        case h_2 => exact h.elim
        rename_i l hh hlo hhi
        obtain ⟨rfl, rfl, hk⟩ := h
        have blo := bnd_val hA hlo
        have bhi := bnd_val hA hhi
        cases hx with
        | emp p =>
          refine ⟨.emp, .slice p 0 0, hk, .emp p, ?_⟩
          simp [Instr.sliceAt, Instr.slice, hund, run_bounds2 blo bhi true (Nat.le_refl 0) (by omega), hsz]
      · exact h.elim
  · rename_i hd
    rw [hd] at hund
    split at h
    case h_2 => exact h.elim
    rename_i s hm
    have hmn : mx.map a.eval = none := by cases mx <;> simp_all
    rw [hmn]
    split at h
    case h_2 => exact h.elim
    rename_i l hh hlo hhi
    obtain ⟨hb, hk⟩ := h
    have blo := bnd_val hA hlo
    have bhi := bnd_val hA hhi
    cases hx
    refine ⟨_, .string (s.extract l.toNat hh.toNat), hk, .str _, ?_⟩
    simp [Instr.sliceAt, Instr.slice, hund, run_bounds2 blo bhi false (Nat.le_refl _) hb]

/-! ### builtins -/
def aLen (d : TypeDesc) (v : AV) : Option AV :=
  match d, v with
  | .slice _, .arr _ n _ => some (.int .i64 n)
  | .slice _, .own _ _ _ n => some (.int .i64 n)
  | .slice _, .emp => some (.int .i64 0)
  | .string, .str s => some (.int .i64 s.size)
  | _, _ => none
def aMin (x y : AV) : Option AV := match x, y with | .int k a, .int _ b => some (.int k (if b < a then b else a)) | _, _ => none
def aMax (x y : AV) : Option AV := match x, y with | .int k a, .int _ b => some (.int k (if a < b then b else a)) | _, _ => none
theorem run_call_builtin {P : Program} {o : Oper} {a : Act} {w : World} {b : Builtin} {args : Array Operand} {ts : Array TypeId} (ho : o.op = .call { callee := .builtin b, args := args, argTypes := ts }) :
    ∃ cs, (execOp a.eval o).run P w = (builtin b ts o.type cs (args.map a.eval)).run P w :=
  ⟨_, by simp only [execOp, ho, resolve, Sem.run_bind, Sem.run_pure, Result.andThen_ok, invoke]; rfl⟩
theorem so_len {P : Program} {T : Tab} (hT : TOk P T) {o : Oper} {A : List AV} {a : Act} {st : St} {w : World} {x : Operand} {t : TypeId} {r : TRow} {k : KK} {next : Act → World → Prop} {Q : Exit → Act → World → Prop} {v : AV}
    (ho : o.op = .call { callee := .builtin .len, args := #[x], argTypes := #[t] }) (hA : RelA w st A a) (hS : RelS st w) (hr : T t = some r) (h : aLen r.desc (ev A x) = some v) (hk : k v st) (hn : Nxt st w k a o.dst next) : o.wp P a w next Q := by
  have hund := TOk.und hT hr w
  have hx := ev_rep hA x
  obtain ⟨bs, hrun⟩ := run_call_builtin (P := P) (a := a) (w := w) ho
  generalize hxv : a.eval x = cx at hx
  generalize ev A x = ax at h hx
  generalize r.desc = d at h hund
  unfold aLen at h
  split at h
  · cases hx; cases h
    exact so_pure (c := .int .i64 _) (by rw [hrun]; simp [builtin, Builtin.len_, hund, hxv, goInt]) hS (.int _ _) hk hn
  · cases hx; cases h
    exact so_pure (c := .int .i64 _) (by rw [hrun]; simp [builtin, Builtin.len_, hund, hxv, goInt]) hS (.int _ _) hk hn
  · cases hx; cases h
    exact so_pure (c := .int .i64 _) (by rw [hrun]; simp [builtin, Builtin.len_, hund, hxv, goInt]) hS (.int _ _) hk hn
  · cases hx; cases h
    exact so_pure (c := .int .i64 _) (by rw [hrun]; simp [builtin, Builtin.len_, hund, hxv, goInt]) hS (.int _ _) hk hn
  · cases h
theorem so_min {P : Program} {o : Oper} {A : List AV} {a : Act} {st : St} {w : World} {x y : Operand} {ts : Array TypeId} {k : KK} {next : Act → World → Prop} {Q : Exit → Act → World → Prop} {v : AV}
    (ho : o.op = .call { callee := .builtin .min, args := #[x, y], argTypes := ts }) (hA : RelA w st A a) (hS : RelS st w) (h : aMin (ev A x) (ev A y) = some v) (hk : k v st) (hn : Nxt st w k a o.dst next) : o.wp P a w next Q := by
  have hx := ev_rep hA x
  have hy := ev_rep hA y
  obtain ⟨bs, hrun⟩ := run_call_builtin (P := P) (a := a) (w := w) ho
  generalize hxv : a.eval x = cx at hx
  generalize hyv : a.eval y = cy at hy
  generalize ev A x = ax at h hx
  generalize ev A y = ay at h hy
  unfold aMin at h
  split at h
  · cases hx; cases hy; cases h
    exact so_pure (c := .int _ _) (by rw [hrun]; simp [builtin, Builtin.min_, Builtin.min2, hxv, hyv]) hS (.int _ _) hk hn
  · cases h
theorem so_max {P : Program} {o : Oper} {A : List AV} {a : Act} {st : St} {w : World} {x y : Operand} {ts : Array TypeId} {k : KK} {next : Act → World → Prop} {Q : Exit → Act → World → Prop} {v : AV}
    (ho : o.op = .call { callee := .builtin .max, args := #[x, y], argTypes := ts }) (hA : RelA w st A a) (hS : RelS st w) (h : aMax (ev A x) (ev A y) = some v) (hk : k v st) (hn : Nxt st w k a o.dst next) : o.wp P a w next Q := by
  have hx := ev_rep hA x
  have hy := ev_rep hA y
  obtain ⟨bs, hrun⟩ := run_call_builtin (P := P) (a := a) (w := w) ho
  generalize hxv : a.eval x = cx at hx
  generalize hyv : a.eval y = cy at hy
  generalize ev A x = ax at h hx
  generalize ev A y = ay at h hy
  unfold aMax at h
  split at h
  · cases hx; cases hy; cases h
    exact so_pure (c := .int _ _) (by rw [hrun]; simp [builtin, Builtin.max_, Builtin.max2, hxv, hyv]) hS (.int _ _) hk hn
  · cases h

/-! ### append -/
/-- What is appended: how many elements, and which. -/
def srcOf (e : Nat) (st : St) (x : AV) : Option (Nat × (Nat → AV)) :=
  match x with
  | .arr e' m f => if e' = e then some (m, f) else none
  | .emp => some (0, fun _ => .junk)
  | .own e' b off m => match st b with
    | some y => if e' = e ∧ y.e = e ∧ off + m ≤ y.n then some (m, fun i => y.f (off + i)) else none
    | none => none
  | _ => none
def aAppend (T : Tab) (t : TypeId) (s x : AV) (st : St) (k : KK) : Prop :=
  match T t with
  | none => False
  | some r => match r.desc with
    | .slice el => match T el with
      | none => False
      | some q => 0 < q.size ∧ 0 < q.bytes ∧ q.zero.cells.size = q.size ∧ match srcOf q.size st x with
        | none => False
        | some (m, f) => match s with
          | .emp => (m = 0 → k .emp st) ∧ (0 < m → m * q.bytes ≤ 140737488355328 ∧ ∀ b, st b = none → k (.own q.size b 0 m) (upd st b ⟨el, q.size, m, f⟩))
          | .own e b off n => e = q.size ∧ off = 0 ∧ match st b with
            | some y => y.e = e ∧ y.ty = el ∧ y.n = n ∧ (m = 0 → k (.own e b 0 n) st) ∧ (0 < m → (n + m) * q.bytes ≤ 140737488355328 ∧
                ∀ b', (b' = b ∨ st b' = none) → k (.own e b' 0 (n + m)) (upd (del st b) b' ⟨el, e, n + m, fun i => if i < n then y.f i else f (i - n)⟩))
            | none => False
          | _ => False
    | _ => False
/-- The source's cells. -/
theorem src_cells {w : World} {st : St} {e m : Nat} {f : Nat → AV} {x : AV} {c : Value} (hS : RelS st w) (hx : RepW w st x c) (h : srcOf e st x = some (m, f)) :
    ∃ p q, c = .slice p m q ∧ (0 < m → ∃ ad, p = some ad) ∧ (∀ i, i < m → (cellsOf (f i)).length = e ∧ (cellsOf (f i)).all AV.one = true) ∧
      ∃ us : List Value, us.length = m * e ∧ (∀ u ∈ us, u.oneCell' = true) ∧ (∀ ad, p = some ad → ∀ (j : Nat) u, us[j]? = some u → w.cell? (ad.add j) = some u) ∧
        ∀ i j y, i < m → (cellsOf (f i))[j]? = some y → ∃ u, us[i * e + j]? = some u ∧ RepW w st y u := by
  have build : ∀ (g : Nat → Nat → Value) (p : Option Addr), (∀ i, i < m → (cellsOf (f i)).length = e ∧ (cellsOf (f i)).all AV.one = true) → (∀ ad, p = some ad → ∀ i j, i < m → j < e → w.cell? (ad.add (i * e + j)) = some (g i j)) →
      (∀ (i j : Nat) y, i < m → (cellsOf (f i))[j]? = some y → RepW w st y (g i j)) →
      ∃ us : List Value, us.length = m * e ∧ (∀ u ∈ us, u.oneCell' = true) ∧ (∀ ad, p = some ad → ∀ (j : Nat) u, us[j]? = some u → w.cell? (ad.add j) = some u) ∧
        ∀ (i j : Nat) y, i < m → (cellsOf (f i))[j]? = some y → ∃ u, us[i * e + j]? = some u ∧ RepW w st y u := by
    intro g p h1 h2 h3
    have hdm : ∀ j, j < m * e → j / e < m ∧ j % e < e ∧ j / e * e + j % e = j := fun j hj => by
      have he : 0 < e := Nat.pos_of_ne_zero fun h => by subst h; simp at hj
      exact ⟨(Nat.div_lt_iff_lt_mul he).2 hj, Nat.mod_lt _ he, Nat.div_add_mod' j e⟩
    refine ⟨(List.range (m * e)).map fun j => g (j / e) (j % e), by simp, fun u hu => ?_, fun ad had j u hu => ?_, fun i j y hi hy => ?_⟩
    · obtain ⟨j, hj, rfl⟩ := List.mem_map.1 hu
      obtain ⟨d1, d2, d3⟩ := hdm j (List.mem_range.1 hj)
      obtain ⟨l1, l2⟩ := h1 _ d1
      have hgy := List.getElem?_eq_getElem (l := cellsOf (f (j / e))) (i := j % e) (by omega)
      simp only [List.all_eq_true] at l2
      exact (Rep.one (h3 _ _ _ d1 hgy) (l2 _ (List.getElem_mem _))).1
    · have hj : j < m * e := by have := (List.getElem?_eq_some_iff.1 hu).1; simpa using this
      obtain ⟨d1, d2, d3⟩ := hdm j hj
      simp only [List.getElem?_map, List.getElem?_range hj, Option.map_some, Option.some.injEq] at hu
      subst hu
      have := h2 ad had _ _ d1 d2
      rwa [d3] at this
    · have hj : j < e := by rw [← (h1 i hi).1]; exact (List.getElem?_eq_some_iff.1 hy).1
      have hpos := mul_add_lt hi hj
      refine ⟨g i j, ?_, h3 i j y hi hy⟩
      simp only [List.getElem?_map, List.getElem?_range hpos, Option.map_some]
      have he : 0 < e := by omega
      congr 1
      rw [show (i * e + j) / e = i from by rw [Nat.mul_comm, Nat.mul_add_div he, Nat.div_eq_of_lt hj]; omega, show (i * e + j) % e = j from by rw [Nat.mul_comm, Nat.mul_add_mod]; exact Nat.mod_eq_of_lt hj]
  unfold srcOf at h
  split at h
  · rename_i e' m' f'
    split at h
    case isFalse => cases h
    rename_i he
    subst he
    cases h
    cases hx with
    | arr e n f p c g hc hA hl ho hr hg =>
      refine ⟨p, c, rfl, hA, fun i hi => ⟨hl i hi, ho i hi⟩, build g p (fun i hi => ⟨hl i hi, ho i hi⟩) (fun ad had i j hi hj => rdOf_cell (hr ad had i j hi hj)) hg⟩
  · cases h
    cases hx with
    | emp p => exact ⟨p, 0, rfl, fun h => absurd h (by omega), fun i hi => absurd hi (by omega), [], by simp, fun u hu => (by cases hu), fun ad had j u hu => by simp at hu, fun i j y hi => absurd hi (by omega)⟩
  · rename_i e' b off m'
    split at h
    case h_2 => cases h
    rename_i y hy
    split at h
    case isFalse => cases h
    rename_i hcond
    obtain ⟨rfl, he, hle⟩ := hcond
    cases h
    obtain ⟨cs, hok⟩ := hS b y hy
    cases hx with
    | own e b off n c hc hs =>
      have hex : ∀ i j, ∃ u, i < m → j < e' → cs[(off + i) * e' + j]? = some u ∧ ∀ z, (cellsOf (y.f (off + i)))[j]? = some z → RepW w st z u := by
        intro i j
        by_cases hij : i < m ∧ j < e'
        · obtain ⟨hi, hj⟩ := hij
          have hlen := hok.len (off + i) (by omega)
          obtain ⟨u, hu1, hu2⟩ := hok.cell (off + i) j ((cellsOf (y.f (off + i)))[j]'(by omega)) (by omega) (List.getElem?_eq_getElem (by omega))
          refine ⟨u, fun _ _ => ⟨by rw [← he]; exact hu1, fun z hz => ?_⟩⟩
          rw [List.getElem?_eq_getElem (by omega)] at hz
          cases hz; exact hu2
        · exact ⟨undef, fun h1 h2 => absurd ⟨h1, h2⟩ hij⟩
      have hex2 := fun i => Classical.axiomOfChoice (hex i)
      obtain ⟨g', hg'⟩ := Classical.axiomOfChoice hex2
      have hl : ∀ i, i < m → (cellsOf (y.f (off + i))).length = e' ∧ (cellsOf (y.f (off + i))).all AV.one = true := fun i hi => ⟨by rw [← he]; exact hok.len _ (by omega), hok.one _ (by omega)⟩
      refine ⟨_, c, rfl, fun _ => ⟨_, rfl⟩, hl, build g' _ hl (fun ad had i j hi hj => ?_) (fun i j z hi hz => ?_)⟩
      · cases had
        rw [Addr.add_lit, cell_of_row w b _ cs y.ty (0, 0) hok.heap, ← Nat.add_assoc, ← Nat.add_mul]
        exact (hg' i j hi hj).1
      · have hj : j < e' := by rw [← (hl i hi).1]; exact (List.getElem?_eq_some_iff.1 hz).1
        exact (hg' i j hi hj).2 z hz
  · cases h
theorem upd_del (st : St) (b : Nat) (x : Blk) : upd (del st b) b x = upd st b x := funext fun c => by unfold upd del; split <;> rfl
section
variable {P : Program} {T : Tab} (hT : TOk P T) {t el ty : TypeId} {r q : TRow} (hr : T t = some r) (hd : r.desc = .slice el) (hq : T el = some q)
include hT hr hd hq
theorem run_append_zero {w : World} (base : Option Addr) (n c : Nat) (hn : n ≤ c) (p : Option Addr) (qc : Nat) :
    (Builtin.append_ #[t, t] ty #[.slice base n c, .slice p 0 qc]).run P w = .ok (.slice base n c) w := by
  obtain ⟨hu, _⟩ := hT t r hr
  rw [hd] at hu
  obtain ⟨_, i, hi, _⟩ := hT el q hq
  have h0 : ∀ sz : Nat, (Builtin.firstCells sz 0 (.slice p 0 qc)).run P w = .ok #[] w := fun sz => by
    cases p with
    | none => simp [Builtin.firstCells]
    | some a => simp [Builtin.firstCells, loadCells, loadCellsFrom]
  cases base with
  | none => simp [Builtin.append_, run_underlying hu, Go.sizeOf, typeInfo, hi, Builtin.lenOf, hn, h0]
  | some a => simp [Builtin.append_, run_underlying hu, Go.sizeOf, typeInfo, hi, Builtin.lenOf, hn, h0, storeCells]
theorem run_append_room_row {w : World} {b n c m qc : Nat} {ad : Addr} {us : List Value} {cs : Array Value} {et : TypeId} (hh : w.heap[b]? = some (.cells cs et (0, 0))) (hl : us.length = m * q.size)
    (hus : ∀ (j : Nat) u, us[j]? = some u → w.cell? (ad.add j) = some u) (h1 : ∀ u ∈ us, u.oneCell' = true) (hroom : n + m ≤ c) (hc : c * q.size ≤ cs.size) :
    (Builtin.append_ #[t, t] ty #[.slice (some ⟨b, 0, none⟩) n c, .slice (some ad) m qc]).run P w =
      .ok (.slice (some ⟨b, 0, none⟩) (n + m) c) (w.setRow b (cs.toList.take (n * q.size) ++ us ++ cs.toList.drop (n * q.size + us.length)).toArray) := by
  obtain ⟨hu, _⟩ := hT t r hr
  rw [hd] at hu
  obtain ⟨_, i, hi, his, _⟩ := hT el q hq
  have hfc := run_firstCells_some (P := P) w i.size m ad m qc us (by rw [his]; exact hl) hus
  have hsize : n * q.size + us.length ≤ cs.size := by
    have : (n + m) * q.size ≤ c * q.size := Nat.mul_le_mul_right _ hroom
    rw [Nat.add_mul] at this; omega
  have hst := run_storeCells_at (P := P) b (n * q.size) et us 0 cs w hh (by omega) h1
  simp only [Nat.add_zero] at hst
  rw [← his] at hst ⊢
  simp [Builtin.append_, run_underlying hu, Go.sizeOf, typeInfo, hi, Builtin.lenOf, hroom, hfc, Addr.add_lit, hst]
theorem run_append_more {w : World} (hq0 : 0 < q.size) (hzs : q.zero.cells.size = q.size) (base : Option Addr) (n c : Nat) (olds : List Value) (hb : base = none → n = 0 ∧ c = 0) (hlo : olds.length = n * q.size)
    (holds : ∀ a, base = some a → ∀ (j : Nat) u, olds[j]? = some u → w.cell? (a.add j) = some u) {m qc : Nat} {ad : Addr} {us : List Value} (hl : us.length = m * q.size)
    (hus : ∀ (j : Nat) u, us[j]? = some u → w.cell? (ad.add j) = some u) (h1 : ∀ u ∈ us, u.oneCell' = true) (hm : 0 < m) (hfull : c < n + m) (hbytes : (n + m) * q.bytes ≤ 140737488355328) (hb0 : 0 < q.bytes) :
    ∃ g cap cur w', (Builtin.append_ #[t, t] ty #[.slice base n c, .slice (some ad) m qc]).run P w = .ok (.slice (some ⟨g, 0, none⟩) (n + m) cap) w' ∧ Adds w w' ∧ w.heap.size ≤ g ∧ w'.heap[g]? = some (.cells cur el (0, 0)) ∧
      n + m ≤ cap ∧ cur.size = cap * q.size ∧ cur.toList.take ((n + m) * q.size) = olds ++ us := by
  obtain ⟨hu, _⟩ := hT t r hr
  rw [hd] at hu
  obtain ⟨_, i, hi, his, hib, hiz⟩ := hT el q hq
  have hmax : n + m ≤ maxLen := by
    have h : n + m ≤ (n + m) * q.bytes := Nat.le_mul_of_pos_right _ hb0
    simp only [maxLen]; omega
  suffices hmain : ∃ v' w', (Builtin.append_ #[t, t] ty #[.slice base n c, .slice (some ad) m qc]).run P w = .ok v' w' ∧ w'.ownsRow w.heap.size el q.size v' (n + m) (olds ++ us) ∧ w.grownBy w' none by
    obtain ⟨v', w', hrun, ⟨_, hown⟩, hg⟩ := hmain
    rcases hown with ⟨_, h0⟩ | ⟨g, cap, cur, rfl, hge, hh, hnc, _, hsz, htake⟩
    · omega
    · refine ⟨g, cap, cur, w', hrun, ⟨hg.os, hg.tape, hg.output, hg.size, fun b hb => hg.block b hb (by simp)⟩, hge, hh, hnc, hsz, ?_⟩
      first | exact htake | (rw [← htake]; congr 1; simp [hlo, hl, Nat.add_mul])
  cases base with
  | some b =>
    exact run_append_arg_grows (P := P) w t ty el i q.zero q.size q.bytes hu hi hiz his hib hzs hq0 b n c olds hlo (holds b rfl) ad m qc us hl hus hfull hmax hbytes
  | none =>
    obtain ⟨rfl, rfl⟩ := hb rfl
    obtain rfl : olds = [] := List.eq_nil_of_length_eq_zero (by simpa using hlo)
    obtain ⟨v', w', hrun, r1, r2, _⟩ := run_append_own (P := P) w w.heap.size t ty el i q.zero q.size q.bytes hu hi hiz his hib hzs hq0 (.slice none 0 0) 0 [] (World.ownsRow_nil w _ el q.size) ad m qc us hl hus h1 hmax hbytes (Nat.le_refl _)
    exact ⟨v', w', hrun, r1, r2⟩
end
theorem so_append {P : Program} {T : Tab} (hT : TOk P T) {o : Oper} {A : List AV} {a : Act} {st : St} {w : World} {s x : Operand} {t : TypeId} {k : KK} {next : Act → World → Prop} {Q : Exit → Act → World → Prop}
    (ho : o.op = .call { callee := .builtin .append, args := #[s, x], argTypes := #[t, t] }) (hA : RelA w st A a) (hS : RelS st w) (h : aAppend T t (ev A s) (ev A x) st k) (hn : Nxt st w k a o.dst next) : o.wp P a w next Q := by
  suffices hmain : ∃ v c st' w', k v st' ∧ (Builtin.append_ #[t, t] o.type #[a.eval s, a.eval x]).run P w = .ok c w' ∧ RepW w' st' v c ∧ RelS st' w' ∧ Evo st w st' w' by
    obtain ⟨v, c, st', w', hk, hrun, hv, hS', he⟩ := hmain
    obtain ⟨bs, hrun'⟩ := run_call_builtin (P := P) (a := a) (w := w) ho
    unfold Oper.wp
    rw [hrun']
    simp only [builtin, Sem.run_bind, List.map_toArray, List.map_cons, List.map_nil, hrun, Result.andThen_ok, Sem.run_pure, Oper.upon]
    exact hn _ _ _ _ hk hv hS' he
  have hx := ev_rep hA x
  have hs := ev_rep hA s
  generalize a.eval x = cx at hx
  generalize a.eval s = cs at hs
  generalize ev A x = ax at h hx
  generalize ev A s = as at h hs
  unfold aAppend at h
  split at h
  · exact h.elim
  rename_i r hr
  split at h
  case h_2 => exact h.elim
  rename_i el hd
  split at h
  · exact h.elim
  rename_i q hq
  obtain ⟨hq0, hb0, hzs, h⟩ := h
  split at h
  · exact h.elim
  rename_i m f hsrc
  obtain ⟨p, qc, rfl, hp, hcf, us, hus1, hus2, hus3, hus4⟩ := src_cells hS hx hsrc
  split at h
  · obtain ⟨hk0, hk1⟩ := h
    cases hs with
    | emp base =>
      by_cases hm : 0 < m
      · obtain ⟨hbytes, hk⟩ := hk1 hm
        obtain ⟨ad, rfl⟩ := hp hm
        obtain ⟨g, cap, cur, w', hrun, hadd, hge, hh, hnc, hsz, htake⟩ := run_append_more (ty := o.type) hT hr hd hq (w := w) hq0 hzs base 0 0 [] (fun _ => ⟨rfl, rfl⟩) (by simp) (fun _ _ j u hu => by simp at hu) (m := m) (qc := qc) (by simpa using hus1) (hus3 ad rfl) hus2 hm (by omega) (by simpa using hbytes) hb0
        have hfr : st g = none := by
          cases hg : st g with
          | none => rfl
          | some z => exact absurd (hS.lt hg) (by omega)
        have he := Evo.owned (x := ⟨el, q.size, m, f⟩) hS hadd hge
        simp only [Nat.zero_add, List.nil_append] at htake hnc hrun
        have hmc : m * q.size ≤ cap * q.size := Nat.mul_le_mul_right _ hnc
        have hok : BlkOk w' (upd st g ⟨el, q.size, m, f⟩) g ⟨el, q.size, m, f⟩ cur := by
          refine ⟨hh, by rw [hsz]; exact hmc, fun i hi => (hcf i hi).1, fun i hi => (hcf i hi).2, fun i j y hi hy => ?_⟩
          obtain ⟨u, hu1, hu2⟩ := hus4 i j y hi hy
          refine ⟨u, ?_, he.rep hu2⟩
          rw [← htake] at hu1
          have hlt : i * q.size + j < m * q.size := mul_add_lt hi (by rw [← (hcf i hi).1]; exact (List.getElem?_eq_some_iff.1 hy).1)
          rw [List.getElem?_take_of_lt hlt] at hu1
          simpa using hu1
        refine ⟨_, _, _, w', hk g hfr, hrun, ?_, hS.owned hadd hge _ _ hok, he⟩
        have : RepW w' (upd st g ⟨el, q.size, m, f⟩) (.own q.size g 0 m) (.slice (some ⟨g, 0 * q.size, none⟩) m cap) := .own _ _ _ _ _ hnc (by unfold szOf; rw [hh]; simp [hsz])
        simpa using this
      · obtain rfl : m = 0 := by omega
        exact ⟨_, _, st, w, hk0 rfl, run_append_zero hT hr hd hq base 0 0 (Nat.le_refl _) p qc, .emp base, hS, Evo.refl _ _⟩
  · rename_i e b off n
    obtain ⟨rfl, rfl, h⟩ := h
    split at h
    case h_2 => exact h.elim
    rename_i y hy
    obtain ⟨hye, hyt, hyn, hk0, hk1⟩ := h
    obtain ⟨cs', hok⟩ := hS b y hy
    cases hs with
    | own e b off n c hc hsz0 =>
      by_cases hm : 0 < m
      · obtain ⟨hbytes, hk⟩ := hk1 hm
        obtain ⟨ad, rfl⟩ := hp hm
        have hszb : szOf w b = cs'.size := by unfold szOf; rw [hok.heap]
        rw [hszb] at hsz0
        simp only [Nat.zero_add] at hsz0
        have hcells : ∀ i, i < n + m → (cellsOf ((fun i => if i < n then y.f i else f (i - n)) i)).length = q.size ∧ (cellsOf ((fun i => if i < n then y.f i else f (i - n)) i)).all AV.one = true := fun i hi => by
          simp only
          split
          · exact ⟨by rw [← hye]; exact hok.len i (by omega), hok.one i (by omega)⟩
          · exact hcf _ (by omega)
        have hnq : n * q.size ≤ cs'.size := by have := hok.size; rw [hye, hyn] at this; exact this
        -- what the cells of the new row are
        have hrow : ∀ (w' : World) (b' : Nat) (cur : Array Value), Evo st w (upd (del st b) b' ⟨el, q.size, n + m, fun i => if i < n then y.f i else f (i - n)⟩) w' → w'.heap[b']? = some (.cells cur el (0, 0)) → (n + m) * q.size ≤ cur.size →
            cur.toList.take ((n + m) * q.size) = cs'.toList.take (n * q.size) ++ us →
            BlkOk w' (upd (del st b) b' ⟨el, q.size, n + m, fun i => if i < n then y.f i else f (i - n)⟩) b' ⟨el, q.size, n + m, fun i => if i < n then y.f i else f (i - n)⟩ cur := by
          intro w' b' cur he hh hsz htake
          refine ⟨hh, hsz, fun i hi => (hcells i hi).1, fun i hi => (hcells i hi).2, fun i j z hi hz => ?_⟩
          have hi' : i < n + m := hi
          have hj : j < q.size := by rw [← (hcells i hi).1]; exact (List.getElem?_eq_some_iff.1 hz).1
          have hlt := mul_add_lt hi hj
          have hcur : cur[i * q.size + j]? = (cs'.toList.take (n * q.size) ++ us)[i * q.size + j]? := by
            rw [← htake, List.getElem?_take_of_lt hlt, Array.getElem?_toList]
          simp only at hcur hz ⊢
          rw [hcur]
          split at hz
          · rename_i hin
            obtain ⟨u, hu1, hu2⟩ := hok.cell i j z (by omega) hz
            refine ⟨u, ?_, he.rep hu2⟩
            have hlt2 : i * q.size + j < n * q.size := mul_add_lt hin hj
            rw [List.getElem?_append_left (by simp; omega), List.getElem?_take_of_lt hlt2, Array.getElem?_toList, ← hye]; exact hu1
          · rename_i hin
            obtain ⟨u, hu1, hu2⟩ := hus4 (i - n) j z (by omega) hz
            refine ⟨u, ?_, he.rep hu2⟩
            have hge2 : n * q.size ≤ i * q.size := Nat.mul_le_mul_right _ (by omega)
            rw [List.getElem?_append_right (by simp; omega), ← hu1]
            congr 1
            rw [Nat.sub_mul]
            simp; omega
        by_cases hroom : n + m ≤ c
        · have hrun := run_append_room_row (ty := o.type) hT hr hd hq (w := w) (b := b) (n := n) (c := c) (m := m) (qc := qc) (ad := ad) (us := us) hok.heap hus1 (hus3 ad rfl) hus2 hroom hsz0
          have hsz1 : (n + m) * q.size ≤ cs'.size := Nat.le_trans (Nat.mul_le_mul_right _ hroom) hsz0
          have hsz2 : n * q.size + m * q.size ≤ cs'.size := by rw [← Nat.add_mul]; exact hsz1
          have hsize : cs'.size ≤ (cs'.toList.take (n * q.size) ++ us ++ cs'.toList.drop (n * q.size + us.length)).toArray.size := by simp [hus1]; omega
          have he := Evo.setRow (y := ⟨el, q.size, n + m, fun i => if i < n then y.f i else f (i - n)⟩) hy hok.heap hsize
          rw [← upd_del] at he
          have hnew := hrow _ b _ he (by rw [heap_setRow_same hok.heap, hyt]) (by simp [hus1]; omega) (by
            simp only [List.toList_toArray]
            rw [List.take_append_of_le_length (by simp [hus1, Nat.add_mul]; omega)]
            rw [List.take_of_length_le (by simp [hus1, Nat.add_mul]; omega)])
          refine ⟨_, _, _, _, hk b (.inl rfl), (by simpa using hrun), ?_, ?_, he⟩
          · have : RepW (w.setRow b (cs'.toList.take (n * q.size) ++ us ++ cs'.toList.drop (n * q.size + us.length)).toArray) (upd (del st b) b ⟨el, q.size, n + m, fun i => if i < n then y.f i else f (i - n)⟩) (.own q.size b 0 (n + m)) (.slice (some ⟨b, 0 * q.size, none⟩) (n + m) c) :=
              .own _ _ _ _ _ hroom (by unfold szOf; rw [heap_setRow_same hok.heap]; simp only [Nat.zero_add]; exact Nat.le_trans hsz0 hsize)
            simpa using this
          · rw [upd_del] at hnew ⊢
            exact hS.setRow hy hok.heap hsize hnew
        · obtain ⟨g, cap, cur, w', hrun, hadd, hge, hh, hnc, hsz, htake⟩ := run_append_more (ty := o.type) hT hr hd hq (w := w) hq0 hzs (some ⟨b, 0, none⟩) n c (cs'.toList.take (n * q.size)) (fun h => by cases h) (by simp; omega)
            (fun a ha j u hu => by
              cases ha
              have hj : j < n * q.size := by have := (List.getElem?_eq_some_iff.1 hu).1; simp at this; omega
              rw [Addr.add_lit, Nat.zero_add, cell_of_row w b _ cs' y.ty (0, 0) hok.heap]
              rw [List.getElem?_take_of_lt hj] at hu; simpa using hu) (m := m) (qc := qc) hus1 (hus3 ad rfl) hus2 hm (by omega) hbytes hb0
          have hfr : st g = none := by
            cases hg : st g with
            | none => rfl
            | some z => exact absurd (hS.lt hg) (by omega)
          have hgb : g ≠ b := fun h => by rw [h, hy] at hfr; cases hfr
          have he : Evo st w (upd (del st b) g ⟨el, q.size, n + m, fun i => if i < n then y.f i else f (i - n)⟩) w' :=
            ⟨hadd.os, hadd.tape, hadd.output, hadd.size, fun b0 hb0 hs0 => ⟨hadd.blk b0 hb0, by unfold upd del; rw [if_neg (by omega)]; split; rfl; exact hs0⟩, szOf_lt hadd.blk⟩
          have hnew := hrow w' g cur he hh (by rw [hsz]; exact Nat.mul_le_mul_right _ hnc) htake
          refine ⟨_, _, _, w', hk g (.inr hfr), (by simpa using hrun), ?_, ?_, he⟩
          · have : RepW w' (upd (del st b) g ⟨el, q.size, n + m, fun i => if i < n then y.f i else f (i - n)⟩) (.own q.size g 0 (n + m)) (.slice (some ⟨g, 0 * q.size, none⟩) (n + m) cap) :=
              .own _ _ _ _ _ hnc (by unfold szOf; rw [hh]; simp [hsz])
            simpa using this
          · intro b0 z hz
            unfold upd at hz
            split at hz
            · rename_i h0
              subst h0
              cases hz
              exact ⟨cur, hnew⟩
            · unfold del at hz
              split at hz
              · cases hz
              · obtain ⟨ds, hds⟩ := hS b0 z hz
                exact ⟨ds, hds.evo he (hadd.blk b0 (hS.lt hz))⟩
      · obtain rfl : m = 0 := by omega
        have hrun := run_append_zero (ty := o.type) (w := w) hT hr hd hq (some ⟨b, 0 * q.size, none⟩) n c hc p qc
        exact ⟨_, _, st, w, hk0 rfl, hrun, .own _ _ _ _ _ hc hsz0, hS, Evo.refl _ _⟩
  · exact h.elim
end Go.Ab
/- The abstract machine, part 7: calls, code, functions. -/
set_option linter.unusedVariables false
set_option linter.unusedSimpArgs false
namespace Go.Ab
open Go

/-! ### What a function comes to -/
def RepL (w : World) (st : St) (vs : List AV) (cs : Array Value) : Prop := vs.length = cs.size ∧ ∀ (j : Nat) y c, vs[j]? = some y → cs[j]? = some c → RepW w st y c
theorem RepL.evo {st st' : St} {w w' : World} {vs : List AV} {cs : Array Value} (h : RepL w st vs cs) (he : Evo st w st' w') : RepL w' st' vs cs := ⟨h.1, fun j y c hy hc => he.rep (h.2 j y c hy hc)⟩
def Ent (P : Program) (f : FuncId) : Prop := ∀ (args : Array Value) (w : World), (callFunc f args).run P w = .ok (.enter f args) w
/-- Called with values that stand for 'args', over a store 'st', the function returns; what it returns, and the store then, meet 'post'; nothing else has turned. -/
def S (P : Program) (f : FuncId) (args : List AV) (st : St) (post : KK) : Prop :=
  Ent P f ∧ ∀ (cargs : Array Value) (w : World), RepL w st args cargs → RelS st w →
    Calls P f cargs w fun e w' => ∃ v c st', post v st' ∧ e = .returned c ∧ RepW w' st' v c ∧ RelS st' w' ∧ Evo st w st' w'
theorem S.mono {P : Program} {f : FuncId} {args : List AV} {st : St} {post post' : KK} (h : S P f args st post) (hp : ∀ v st', post v st' → post' v st') : S P f args st post' :=
  ⟨h.1, fun cargs w hr hs => (h.2 cargs w hr hs).mono fun e w' ⟨v, c, st', h1, h2⟩ => ⟨v, c, st', hp _ _ h1, h2⟩⟩
/-- Another look at the same memory. -/
def Shift (vs : List AV) (st : St) (vs' : List AV) (st' : St) : Prop :=
  ∀ w cs, RelS st w → RepL w st vs cs → RelS st' w ∧ RepL w st' vs' cs ∧ Evo st w st' w
theorem Shift.refl (vs : List AV) (st : St) : Shift vs st vs st := fun w cs hS hR => ⟨hS, hR, Evo.refl _ _⟩
theorem Shift.trans {a b c : List AV} {s t u : St} (h : Shift a s b t) (k : Shift b t c u) : Shift a s c u := fun w cs hS hR => by
  obtain ⟨h1, h2, h3⟩ := h w cs hS hR
  obtain ⟨k1, k2, k3⟩ := k w cs h1 h2
  exact ⟨k1, k2, h3.trans k3⟩
theorem S.pre {P : Program} {f : FuncId} {args args' : List AV} {st st' : St} {post : KK} (h : S P f args' st' post) (hs : Shift args st args' st') : S P f args st post :=
  ⟨h.1, fun cargs w hr hS => by
    obtain ⟨h1, h2, h3⟩ := hs w cargs hS hr
    exact (h.2 cargs w h2 h1).mono fun e w' ⟨v, c, st'', k1, k2, k3, k4, k5⟩ => ⟨v, c, st'', k1, k2, k3, k4, h3.trans k5⟩⟩
/-- The result seen otherwise. -/
theorem S.post {P : Program} {f : FuncId} {args : List AV} {st : St} {post post' : KK} (h : S P f args st post) (hs : ∀ v st', post v st' → ∃ v' st'', post' v' st'' ∧ Shift [v] st' [v'] st'') : S P f args st post' :=
  ⟨h.1, fun cargs w hr hS => (h.2 cargs w hr hS).mono fun e w' ⟨v, c, st', h1, h2, h3, h4, h5⟩ => by
    obtain ⟨v', st'', k1, k2⟩ := hs v st' h1
    obtain ⟨m1, m2, m3⟩ := k2 w' #[c] h4 ⟨rfl, fun j y d hy hd => by
      cases j with
      | zero => simp at hy hd; subst hy; subst hd; exact h3
      | succ j => simp at hy⟩
    exact ⟨v', c, st'', k1, h2, m2.2 0 v' c rfl rfl, m1, h5.trans m3⟩⟩

/-! ### call -/
def aTarget (A : List AV) (c : Callee) (args : List AV) : Option (FuncId × List AV) :=
  match c with
  | .value f => match ev A f with
    | .fn g fs cs => match g with
      | .func n => some (n, fs ++ args ++ cs)
      | _ => none
    | _ => none
  | _ => none
def aCallF (P : Program) (f : FuncId) (args : List AV) (st : St) (k : KK) : Prop := ∃ args' st', Shift args st args' st' ∧ S P f args' st' k
theorem so_enter {P : Program} {o : Oper} {a : Act} {st : St} {w : World} {f : FuncId} {args : List AV} {cargs : Array Value} {k : KK} {next : Act → World → Prop} {Q : Exit → Act → World → Prop}
    (hrun : (execOp a.eval o).run P w = .ok (.enter f cargs) w) (hR : RepL w st args cargs) (hS : RelS st w) (h : aCallF P f args st k) (hn : Nxt st w k a o.dst next) : o.wp P a w next Q := by
  obtain ⟨args', st', hsh, hsp⟩ := h
  obtain ⟨h1, h2, h3⟩ := hsh w cargs hS hR
  unfold Oper.wp
  rw [hrun]
  exact (hsp.2 cargs w h2 h1).mono fun e w' ⟨v, c, st'', k1, k2, k3, k4, k5⟩ => by
    subst k2
    exact hn v c st'' w' k1 k3 k4 (h3.trans k5)
theorem RepL.append {w : World} {st : St} {a b : List AV} {c d : Array Value} (h : RepL w st a c) (k : RepL w st b d) : RepL w st (a ++ b) (c ++ d) := by
  refine ⟨by simp [h.1, k.1], fun j y u hy hu => ?_⟩
  rcases Nat.lt_or_ge j a.length with hj | hj
  · rw [List.getElem?_append_left hj] at hy
    rw [Array.getElem?_append_left (by rw [← h.1]; exact hj)] at hu
    exact h.2 j y u hy hu
  · rw [List.getElem?_append_right hj] at hy
    rw [Array.getElem?_append_right (by rw [← h.1]; exact hj), ← h.1] at hu
    exact k.2 _ y u hy hu
theorem so_call {P : Program} {o : Oper} {A : List AV} {a : Act} {st : St} {w : World} {c : Call} {f : FuncId} {args : List AV} {k : KK} {next : Act → World → Prop} {Q : Exit → Act → World → Prop}
    (ho : o.op = .call c) (hA : RelA w st A a) (hS : RelS st w) (ht : aTarget A c.callee (c.args.toList.map (ev A)) = some (f, args)) (h : aCallF P f args st k) (hn : Nxt st w k a o.dst next) : o.wp P a w next Q := by
  obtain ⟨callee, cargs, ts⟩ := c
  unfold aTarget at ht
  split at ht
  case h_2 => cases ht
  rename_i x hx
  simp only at hx
  subst hx
  have hr := ev_rep hA x
  split at ht
  case h_2 => cases ht
  rename_i g fs cs hg
  rw [hg] at hr
  split at ht
  case h_2 => cases ht
  rename_i n
  cases ht
  generalize hxv : a.eval x = xv at hr
  cases hr with
  | fn g fs cs gs ds hl hl' hgs hds =>
    have hent : Ent P f := by obtain ⟨_, _, _, hs⟩ := h; exact hs.1
    refine so_enter (cargs := gs ++ cargs.map a.eval ++ ds) ?_ (RepL.append (RepL.append ⟨hl, hgs⟩ (repList_map hA cargs)) ⟨hl', hds⟩) hS h hn
    simp only [execOp, ho, resolve, hxv, Deferred.ofValue, Sem.run_bind, Sem.run_pure, Result.andThen_ok, invoke]
    exact hent _ _

/-! ### operations -/
abbrev MTab := TypeId → String → Option (FuncId × Option TypeId)
/-- The methods of types: the function, and (a method of the value, called by a pointer) the element's type. -/
def MOk (P : Program) (M : MTab) : Prop := ∀ t name f d, M t name = some (f, d) → ∀ (v : Value) (w : World),
  match d with
  | none => ∀ args, (callMethod (.iface t v) name args).run P w = (callFunc f (#[v] ++ args)).run P w
  | some el => ∀ (ad : Addr) (u : Value) args, v = .pointer (some ad) → (loadVar el ad).run P w = .ok u w → (callMethod (.iface t v) name args).run P w = (callFunc f (#[u] ++ args)).run P w
def aInvoke (P : Program) (T : Tab) (M : MTab) (r : AV) (name : String) (args : List AV) (st : St) (k : KK) : Prop :=
  match r with
  | .iface t v => match M t name with
    | some (f, none) => aCallF P f (v :: args) st k
    | some (f, some el) => aLoad T el v st (fun u st' => aCallF P f (u :: args) st' k)
    | none => False
  | _ => False
def aBuiltin (T : Tab) (b : Builtin) (args : List AV) (ts : List TypeId) (st : St) (k : KK) : Prop :=
  match b with
  | .len => match args, ts with
    | [x], [t] => match T t with
      | some r => match aLen r.desc x with | some v => k v st | none => False
      | none => False
    | _, _ => False
  | .min => match args with | [x, y] => (match aMin x y with | some v => k v st | none => False) | _ => False
  | .max => match args with | [x, y] => (match aMax x y with | some v => k v st | none => False) | _ => False
  | .append => match args, ts with
    | [s, x], [t, u] => t = u ∧ aAppend T t s x st k
    | _, _ => False
  | _ => False
def aOp (P : Program) (T : Tab) (M : MTab) (o : Oper) (A : List AV) (st : St) (k : KK) : Prop :=
  match o.op with
  | .move x => k (ev A x) st
  | .assign x => k (ev A x) st
  | .pick c x y => match ev A c with | .bool b => (b = true → k (ev A x) st) ∧ (b = false → k (ev A y) st) | _ => False
  | .binOp op t x y _ => match aBinO T op t y (ev A x) (ev A y) with | some v => k v st | none => False
  | .unOp op _ x => match aUn op (ev A x) with | some v => k v st | none => False
  | .load t x => aLoad T t (ev A x) st k
  | .store t x y => (match T t with | some r => 0 < r.size | none => False) ∧ aStore T t (ev A x) (ev A y) st k
  | .alloc t => match T t with | some r => aNew t (avOf r.zero) st k | none => False
  | .box t x => aNew t (ev A x) st k
  | .build t ps => aBuild T t (evP A ps) (fun v => k v st)
  | .buildSlice t n ps => match n with
    | 0 => aRow0 T t (evP A ps) st k
    | m + 1 => aBuildSlice T t (m + 1) (evP A ps) st k
  | .nilCheck x => aNilCheck (ev A x) = true ∧ k (ev A x) st
  | .convert s d x => match aConvert T s d (ev A x) with | some v => k v st | none => False
  | .makeInterface t x => ifaceT T t = true ∧ k (.iface t (ev A x)) st
  | .makeFunc fn fs cs => k (.fn fn (fs.toList.map (ev A)) (cs.toList.map (ev A))) st
  | .makeSlice t l c => aMake T t (ev A l) (ev A c) st k
  | .slice t x lo hi mx => aSlice T t (ev A x) (lo.map (ev A)) (hi.map (ev A)) (mx.map (ev A)) (fun v => k v st)
  | .fieldAddr s x f => aFieldAddr T s (ev A x) f (fun v => k v st)
  | .field s x f => aField T s (ev A x) f (fun v => k v st)
  | .indexAddr t x i => aIndexAddr T t (ev A x) (ev A i) (fun v => k v st)
  | .index t x i => aIndex T t (ev A x) (ev A i) (fun v => k v st)
  | .typeAssert x _ t ok => match aAssert T (ev A x) t ok with | some v => k v st | none => False
  | .extract x i => aExtract (ev A x) i (fun v => k v st)
  | .call c => match c.callee with
    | .builtin b => aBuiltin T b (c.args.toList.map (ev A)) c.argTypes.toList st k
    | .invoke r name => aInvoke P T M (ev A r) name (c.args.toList.map (ev A)) st k
    | .value f => match aTarget A (.value f) (c.args.toList.map (ev A)) with | some (g, args) => aCallF P g args st k | none => False
  | _ => False
structure Good (P : Program) (T : Tab) (M : MTab) : Prop where
  tab : TOk P T
  eqs : EqOk P T
  zero : ∀ t r, T t = some r → zOk r
  meth : MOk P M
theorem so_invoke {P : Program} {T : Tab} {M : MTab} (hG : Good P T M) {o : Oper} {A : List AV} {a : Act} {st : St} {w : World} {r : Operand} {name : String} {xs : Array Operand} {ts : Array TypeId} {k : KK} {next : Act → World → Prop} {Q : Exit → Act → World → Prop}
    (ho : o.op = .call { callee := .invoke r name, args := xs, argTypes := ts }) (hA : RelA w st A a) (hS : RelS st w) (h : aInvoke P T M (ev A r) name (xs.toList.map (ev A)) st k) (hn : Nxt st w k a o.dst next) : o.wp P a w next Q := by
  have hr := ev_rep hA r
  have hxs := repList_map hA xs
  generalize hrv : a.eval r = rv at hr
  generalize ev A r = ar at h hr
  unfold aInvoke at h
  split at h
  case h_2 => exact h.elim
  rename_i t v
  cases hr with
  | iface t v c hc =>
    have hargs : (#[Value.iface t c] ++ xs.map a.eval).extract 1 (#[Value.iface t c] ++ xs.map a.eval).size = xs.map a.eval := by simp
    have hcm : (execOp a.eval o).run P w = (callMethod (.iface t c) name (xs.map a.eval)).run P w := by
      simp only [execOp, ho, resolve, Sem.run_bind, Sem.run_pure, Result.andThen_ok, invoke, hrv]
      rw [show (#[Value.iface t c] ++ Array.map a.eval xs)[0]? = some (.iface t c) from by rw [Array.getElem?_append_left (by show 0 < 1; omega)]; rfl]
      show Sem.run P (callMethod (.iface t c) name ((#[Value.iface t c] ++ Array.map a.eval xs).extract 1)) w = _
      rw [hargs]
    split at h
    · rename_i f hM
      have hm := hG.meth t name f none hM c w
      have hent : Ent P f := by obtain ⟨_, _, _, hs⟩ := h; exact hs.1
      refine so_enter (cargs := #[c] ++ xs.map a.eval) ?_ (RepL.append (a := [v]) (c := #[c]) ⟨rfl, fun j y d hy hd => by
        cases j with
        | zero => simp at hy hd; subst hy; subst hd; exact hc
        | succ j => simp at hy⟩ hxs) hS h hn
      rw [hcm, hm]; exact hent _ _
    · rename_i f el hM
      have hm := hG.meth t name f (some el) hM c w
      -- the load
      unfold aLoad at h
      split at h
      · exact h.elim
      rename_i row hrow
      suffices hmain : ∃ ad y u, c = .pointer (some ad) ∧ aCallF P f (y :: xs.toList.map (ev A)) st k ∧ RepW w st y u ∧ (loadVar el ad).run P w = .ok u w by
        obtain ⟨ad, y, u, rfl, hcall, hy, hrun⟩ := hmain
        have hent : Ent P f := by obtain ⟨_, _, _, hs⟩ := hcall; exact hs.1
        refine so_enter (cargs := #[u] ++ xs.map a.eval) ?_ (RepL.append (a := [y]) (c := #[u]) ⟨rfl, fun j z d hz hd => by
          cases j with
          | zero => simp at hz hd; subst hz; subst hd; exact hy
          | succ j => simp at hz⟩ hxs) hS hcall hn
        rw [hcm, hm ad u _ rfl hrun]; exact hent _ _
      cases hc with
      | fptr v' off ad g hr' hg' =>
        obtain ⟨y, u, hk, hy, hrun⟩ := run_loadVar_at hG.tab hrow (w := w) (st := st) (a := ad) (fun j y hy => ⟨g j, rdOf_cell (hr' j (List.getElem?_eq_some_iff.1 hy).1), hg' j y hy⟩) h
        exact ⟨_, y, u, rfl, hk, hy, hrun⟩
      | optr e b i off =>
        simp only at h
        cases hb : st b with
        | none => rw [hb] at h; exact h.elim
        | some bk =>
          rw [hb] at h
          obtain ⟨he, hi, h⟩ := h
          obtain ⟨cs, hok⟩ := hS b bk hb
          obtain ⟨y, u, hk, hy, hrun⟩ := run_loadVar_at hG.tab hrow (w := w) (st := st) (a := ⟨b, i * e, none⟩) (o := off) (fun j y hy => by
            obtain ⟨u, h1, h2⟩ := hok.cell i j y hi hy
            refine ⟨u, ?_, h2⟩
            rw [Addr.add_lit, cell_of_row w b _ cs bk.ty (0, 0) hok.heap, he]; exact h1) h
          rw [Addr.add_lit] at hrun
          exact ⟨_, y, u, rfl, hk, hy, hrun⟩
      | _ => exact h.elim
    · exact h.elim
theorem so_op {P : Program} {T : Tab} {M : MTab} (hG : Good P T M) {o : Oper} {A : List AV} {a : Act} {st : St} {w : World} {k : KK} {next : Act → World → Prop} {Q : Exit → Act → World → Prop}
    (hA : RelA w st A a) (hS : RelS st w) (h : aOp P T M o A st k) (hn : Nxt st w k a o.dst next) : o.wp P a w next Q := by
  unfold aOp at h
  split at h
  · rename_i ho; exact so_move (.inl ho) hA hS h hn
  · rename_i ho; exact so_move (.inr ho) hA hS h hn
  · rename_i ho
    split at h
    · rename_i hb; exact so_pick ho hA hS hb h.1 h.2 hn
    · exact h.elim
  · rename_i ho
    split at h
    · rename_i hb; exact so_binO hG.tab hG.eqs ho hA hS hb h hn
    · exact h.elim
  · rename_i ho
    split at h
    · rename_i hb; exact so_unOp ho hA hS hb h hn
    · exact h.elim
  · rename_i ho; exact so_load hG.tab ho hA hS h hn
  · rename_i ho
    refine so_store hG.tab ho hA hS h.2 (fun r hr => ?_) hn
    have := h.1
    rw [hr] at this; exact this
  · rename_i ho
    split at h
    · rename_i hr; exact so_alloc hG.tab ho hr hS h hn
    · exact h.elim
  · rename_i ho; exact so_box ho hA hS h hn
  · rename_i ho; exact so_build hG.tab hG.zero ho hA hS h hn
  · rename_i ho
    split at h
    · exact so_row0 hG.tab ho hA hS h hn
    · exact so_buildSlice hG.tab hG.zero ho hA hS h hn
  · rename_i ho; exact so_nilCheck ho hA hS h.1 h.2 hn
  · rename_i ho
    split at h
    · rename_i hb; exact so_convert hG.tab ho hA hS hb h hn
    · exact h.elim
  · rename_i ho; exact so_makeInterface hG.tab ho hA hS h.1 h.2 hn
  · rename_i ho; exact so_makeFunc ho hA hS h hn
  · rename_i ho; exact so_makeSlice hG.tab hG.zero ho hA hS h hn
  · rename_i ho; exact so_slice hG.tab ho hA hS h hn
  · rename_i ho; exact so_fieldAddr hG.tab ho hA hS h hn
  · rename_i ho; exact so_field hG.tab ho hA hS h hn
  · rename_i ho; exact so_indexAddr hG.tab ho hA hS h hn
  · rename_i ho; exact so_index hG.tab ho hA hS h hn
  · rename_i ho
    split at h
    · rename_i hb; exact so_typeAssert hG.tab ho hA hS hb h hn
    · exact h.elim
  · rename_i ho; exact so_extract ho hA hS h hn
  · rename_i c ho
    split at h
    · rename_i b hb
      obtain ⟨callee, xs, ts⟩ := c
      simp only at hb h
      subst hb
      unfold aBuiltin at h
      split at h
      · split at h
        · rename_i x t hx ht
          split at h
          · rename_i r hr
            split at h
            · rename_i v hv
              obtain ⟨xs⟩ := xs
              obtain ⟨ts⟩ := ts
              simp only at hx ht
              match xs, hx with
              | [y], hx =>
                simp only [List.map_cons, List.map_nil, List.cons.injEq, and_true] at hx
                subst hx
                subst ht
                exact so_len hG.tab ho hA hS hr hv h hn
            · exact h.elim
          · exact h.elim
        · exact h.elim
      · split at h
        · rename_i x y hx
          split at h
          · rename_i v hv
            obtain ⟨xs⟩ := xs
            simp only at hx
            match xs, hx with
            | [x1, y1], hx =>
              simp only [List.map_cons, List.map_nil, List.cons.injEq, and_true] at hx
              obtain ⟨rfl, rfl⟩ := hx
              exact so_min ho hA hS hv h hn
          · exact h.elim
        · exact h.elim
      · split at h
        · rename_i x y hx
          split at h
          · rename_i v hv
            obtain ⟨xs⟩ := xs
            simp only at hx
            match xs, hx with
            | [x1, y1], hx =>
              simp only [List.map_cons, List.map_nil, List.cons.injEq, and_true] at hx
              obtain ⟨rfl, rfl⟩ := hx
              exact so_max ho hA hS hv h hn
          · exact h.elim
        · exact h.elim
      · split at h
        · rename_i x y t u hx ht
          obtain ⟨rfl, h⟩ := h
          obtain ⟨xs⟩ := xs
          obtain ⟨ts⟩ := ts
          simp only at hx ht
          subst ht
          match xs, hx with
          | [x1, y1], hx =>
            simp only [List.map_cons, List.map_nil, List.cons.injEq, and_true] at hx
            obtain ⟨rfl, rfl⟩ := hx
            exact so_append hG.tab ho hA hS h hn
        · exact h.elim
      · exact h.elim
    · rename_i r name hb
      obtain ⟨callee, xs, ts⟩ := c
      simp only at hb h
      subst hb
      exact so_invoke hG ho hA hS h hn
    · rename_i f hb
      split at h
      · rename_i g args ht
        rw [← hb] at ht
        exact so_call ho hA hS ht h hn
      · exact h.elim
  · exact h.elim
end Go.Ab
/- The abstract machine, part 8: regions, code, functions. -/
set_option linter.unusedVariables false
set_option linter.unusedSimpArgs false
namespace Go.Ab
open Go

/-! ### regions in order -/
def aWant (ops : List Oper) (o : Oper) (A : List AV) : Option Bool :=
  match o.guard with
  | none => some true
  | some (g, want) => match ops[g]? with
    | none => some false
    | some p => match p.dst with
      | none => some false
      | some d => match A[d]? with
        | some (.bool b) => some (b == want)
        | some (.tuple _) => some false
        | some _ => none
        | none => some false
theorem aWant_ok {ops : Array Oper} {o : Oper} {A : List AV} {a : Act} {st : St} {w : World} (hA : RelA w st A a) {b : Bool} (h : aWant ops.toList o A = some b) : Region.wanted o (yielded ops a.tmps) = b := by
  unfold aWant at h
  unfold Region.wanted
  split at h
  · rename_i hg; rw [hg]; cases h; rfl
  · rename_i g want hg
    rw [hg]
    unfold yielded
    rw [Array.getElem?_toList] at h
    split at h
    · rename_i hp; cases h; simp [hp]
    · rename_i p hp
      split at h
      · rename_i hd; cases h; simp [hp, hd]
      · rename_i d hd
        split at h
        · rename_i c hc
          obtain ⟨u, hu1, hu2⟩ := hA.at_ d _ hc
          cases hu2
          cases h; simp [hp, hd, hu1]
        · rename_i c hc
          obtain ⟨u, hu1, hu2⟩ := hA.at_ d _ hc
          cases hu2
          cases h; simp [hp, hd, hu1]
        · cases h
        · rename_i hn
          have hlen := hA.len
          have : a.tmps[d]? = none := by
            rw [List.getElem?_eq_none_iff] at hn
            exact Array.getElem?_eq_none (by omega)
          cases h; simp [hp, hd, this]
abbrev KA := List AV → St → Prop
/-- The same memory and temporaries, seen otherwise. -/
def ShiftA (A : List AV) (st : St) (A' : List AV) (st' : St) : Prop :=
  ∀ w a, RelA w st A a → RelS st w → RelA w st' A' a ∧ RelS st' w ∧ Evo st w st' w
theorem ShiftA.refl (A : List AV) (st : St) : ShiftA A st A st := fun w a h1 h2 => ⟨h1, h2, Evo.refl _ _⟩
def aOps (P : Program) (T : Tab) (M : MTab) (ops : List Oper) : List Oper → List AV → St → KA → Prop
  | [], A, st, k => k A st
  | o :: rest, A, st, k =>
    match aWant ops o A with
    | none => False
    | some b => (b = true → aOp P T M o A st (fun v st' => aOps P T M ops rest (putA A o.dst v) st' k)) ∧ (b = false → aOps P T M ops rest (putA A o.dst (.tuple [])) st k)
/-- What is known where a piece of code is left. -/
def Lift (K : Exit → KA) (st0 : St) (w0 : World) (e : Exit) (a : Act) (w : World) : Prop := ∃ A st, K e A st ∧ RelA w st A a ∧ RelS st w ∧ Evo st0 w0 st w
theorem so_ops {P : Program} {T : Tab} {M : MTab} (hG : Good P T M) (ops : Array Oper) (K : Exit → KA) (st0 : St) (w0 : World) : ∀ (l : List Oper) (A : List AV) (a : Act) (st : St) (w : World), RelA w st A a → RelS st w → Evo st0 w0 st w →
    aOps P T M ops.toList l A st (fun A' st' => K .normal A' st') → wpList P ops (Lift K st0 w0) l a w
  | [], A, a, st, w, hA, hS, he, h => ⟨A, st, h, hA, hS, he⟩
  | o :: rest, A, a, st, w, hA, hS, he, h => by
    unfold aOps at h
    split at h
    · exact h.elim
    rename_i b hb
    have hw := aWant_ok hA hb
    unfold wpList
    rw [hw]
    cases b with
    | true =>
      rw [if_pos rfl]
      exact .inl (so_op hG hA hS (h.1 rfl) fun v c st' w' hk hv hS' he' => so_ops hG ops K st0 w0 rest _ _ st' w' ((hA.evo he').put o.dst hv) hS' (he.trans he') hk)
    | false =>
      rw [if_neg (by simp)]
      exact so_ops hG ops K st0 w0 rest _ _ st w (hA.put o.dst (rep_undef _ _)) hS he (h.2 rfl)

theorem least {p : Nat → Prop} (h : ∃ m, p m) : ∃ m, p m ∧ ∀ n, p n → m ≤ n := by
  obtain ⟨m, hm⟩ := h
  induction m using Nat.strongRecOn with
  | _ m ih =>
    by_cases hex : ∃ n, n < m ∧ p n
    · obtain ⟨n, hn, hp⟩ := hex
      exact ih n hn hp
    · exact ⟨m, hm, fun n hn => Nat.le_of_not_lt fun hlt => hex ⟨n, hlt, hn⟩⟩

/-! ### code -/
/-- The temporaries of which something is known at a loop's head: all others are forgotten. -/
def spread (n : Nat) (keep : List Nat) (vs : List AV) : List AV := (keep.zip vs).foldl (fun A p => A.set p.1 p.2) (List.replicate n AV.junk)
theorem spread_len (n : Nat) (keep : List Nat) (vs : List AV) : (spread n keep vs).length = n := by
  unfold spread
  suffices h : ∀ (l : List (Nat × AV)) (A : List AV), (l.foldl (fun A p => A.set p.1 p.2) A).length = A.length by rw [h]; simp
  intro l
  induction l with
  | nil => intro A; rfl
  | cons p l ih => intro A; simp only [List.foldl_cons]; rw [ih]; simp
/-- Whatever a list of temporaries says of the kept ones the spread list says; of the others nothing. -/
theorem spread_rep {w : World} {st : St} {A : List AV} {a : Act} (hA : RelA w st A a) (keep : List Nat) : RelA w st (spread A.length keep (keep.map (fun i => A.getD i AV.junk))) a := by
  suffices h : ∀ (ks : List Nat) (B : List AV), B.length = A.length → (∀ i v, B[i]? = some v → v = AV.junk ∨ A[i]? = some v) →
      ∀ i v, ((ks.zip (ks.map (fun i => A.getD i AV.junk))).foldl (fun B p => B.set p.1 p.2) B)[i]? = some v → v = AV.junk ∨ A[i]? = some v by
    refine ⟨by rw [spread_len]; exact hA.len, fun i v hv => ?_, hA.defers⟩
    have hlt : i < a.tmps.size := by
      have := (List.getElem?_eq_some_iff.1 hv).1
      rw [spread_len, hA.len] at this; exact this
    rcases h keep (List.replicate A.length AV.junk) (by simp) (fun i v hv => .inl (by
      have := List.mem_of_getElem? hv
      exact (List.mem_replicate.1 this).2)) i v hv with rfl | hv'
    · exact ⟨a.tmps[i], Array.getElem?_eq_getElem hlt, .junk _⟩
    · exact hA.at_ i v hv'
  intro ks
  induction ks with
  | nil => intro B hl hB i v hv; exact hB i v hv
  | cons k ks ih =>
    intro B hl hB i v hv
    simp only [List.map_cons, List.zip_cons_cons, List.foldl_cons] at hv
    refine ih (B.set k (A.getD k .junk)) (by simp [hl]) (fun j u hu => ?_) i v hv
    rw [List.getElem?_set] at hu
    split at hu
    · rename_i hkj
      subst hkj
      split at hu
      · rename_i hlt
        cases hu
        rw [hl] at hlt
        exact .inr (by rw [List.getD_eq_getElem?_getD, List.getElem?_eq_getElem hlt]; rfl)
      · cases hu
    · exact hB j u hu
/-- .. and so seen, k holds. -/
def Seen (k : KA) : KA := fun A st => ∃ A' st', ShiftA A st A' st' ∧ k A' st'
theorem Lift.seen {K : Exit → KA} {st0 : St} {w0 : World} {a : Act} {w : World} (h : Lift (fun e => match e with | .normal => Seen (K .normal) | e => K e) st0 w0 .normal a w) : Lift K st0 w0 .normal a w := by
  obtain ⟨A, st, ⟨A', st', hs, hk⟩, hA, hS, he⟩ := h
  obtain ⟨s1, s2, s3⟩ := hs w a hA hS
  exact ⟨A', st', hk, s1, s2, he.trans s3⟩
/-- 'Dr': what is asked of a region that draws its order. -/
def W (P : Program) (T : Tab) (M : MTab) (Dr : List Oper → List AV → St → KA → Prop) : Code → List AV → St → (Exit → KA) → Prop
  | .skip, A, st, K => K .normal A st
  | .region _ ops draw, A, st, K => match draw with
    | false => aOps P T M ops.toList ops.toList A st (Seen (K .normal))
    | true => Dr ops.toList A st (Seen (K .normal))
  | .seq x y, A, st, K => W P T M Dr x A st fun e A' st' => match e with
    | .normal => W P T M Dr y A' st' K
    | e => K e A' st'
  | .cond c x y, A, st, K => match ev A c with
    | .bool b => (b = true → W P T M Dr x A st K) ∧ (b = false → W P T M Dr y A st K)
    | .ubool => W P T M Dr x A st K ∧ W P T M Dr y A st K
    | _ => False
  | .block id c, A, st, K => W P T M Dr c A st fun e A' st' => match e with
    | .exit j => if j = id then K .normal A' st' else K (.exit j) A' st'
    | e => K e A' st'
  | .loop c, A, st, K => ∃ (keep : List Nat) (I : Nat → KA), (∃ m, I m (keep.map (fun i => A.getD i AV.junk)) st) ∧ ∀ m vs st', I m vs st' → W P T M Dr c (spread A.length keep vs) st' fun e A'' st'' => match e with
    | .normal => A''.length = A.length ∧ ∃ m', m' < m ∧ I m' (keep.map (fun i => A''.getD i AV.junk)) st''
    | e => K e A'' st''
  | .exit id, A, st, K => K (.exit id) A st
  | .ret, A, st, K => K .ret A st
  | _, _, _, _ => False
/-- What a rule for regions that draw owes. -/
def DrOk (P : Program) (Dr : List Oper → List AV → St → KA → Prop) : Prop :=
  ∀ (id : Nat) (ops : Array Oper) (K : Exit → KA) (st0 : St) (w0 : World) (A : List AV) (a : Act) (st : St) (w : World), RelA w st A a → RelS st w → Evo st0 w0 st w →
    Dr ops.toList A st (fun A' st' => K .normal A' st') → (Code.region id ops true).wp P (Lift K st0 w0) a w
theorem so_code {P : Program} {T : Tab} {M : MTab} {Dr : List Oper → List AV → St → KA → Prop} (hG : Good P T M) (hD : DrOk P Dr) : ∀ (c : Code) (K : Exit → KA) (st0 : St) (w0 : World) (A : List AV) (a : Act) (st : St) (w : World), RelA w st A a → RelS st w → Evo st0 w0 st w →
    W P T M Dr c A st K → c.wp P (Lift K st0 w0) a w
  | .skip, K, st0, w0, A, a, st, w, hA, hS, he, h => wp_skip ⟨A, st, h, hA, hS, he⟩
  | .region id ops draw, K, st0, w0, A, a, st, w, hA, hS, he, h => by
    unfold W at h
    cases draw with
    | false =>
      refine wp_mono (wp_region_list (so_ops hG ops (fun e => match e with | .normal => Seen (K .normal) | e => K e) st0 w0 _ _ _ _ _ hA hS he h)) fun e a w hl => ?_
      cases e <;> first | exact hl | exact hl.seen
    | true =>
      refine wp_mono (hD id ops (fun e => match e with | .normal => Seen (K .normal) | e => K e) st0 w0 A a st w hA hS he h) fun e a w hl => ?_
      cases e <;> first | exact hl | exact hl.seen
  | .seq x y, K, st0, w0, A, a, st, w, hA, hS, he, h => by
    unfold W at h
    refine wp_seq (wp_mono (so_code hG hD x _ st0 w0 A a st w hA hS he h) fun e a' w' ⟨A', st', hk, hA', hS', he'⟩ => ?_)
    cases e with
    | normal => exact so_code hG hD y K st0 w0 A' a' st' w' hA' hS' he' hk
    | _ => exact ⟨A', st', hk, hA', hS', he'⟩
  | .cond c x y, K, st0, w0, A, a, st, w, hA, hS, he, h => by
    unfold W at h
    split at h
    · rename_i b hb
      have hr := ev_rep hA c
      rw [hb] at hr
      generalize hcv : a.eval c = cv at hr
      cases hr
      refine wp_cond hcv ?_
      cases b with
      | true => exact so_code hG hD x K st0 w0 A a st w hA hS he (h.1 rfl)
      | false => exact so_code hG hD y K st0 w0 A a st w hA hS he (h.2 rfl)
    · rename_i hb
      have hr := ev_rep hA c
      rw [hb] at hr
      generalize hcv : a.eval c = cv at hr
      cases hr with
      | ubool b =>
        refine wp_cond hcv ?_
        cases b with
        | true => exact so_code hG hD x K st0 w0 A a st w hA hS he h.1
        | false => exact so_code hG hD y K st0 w0 A a st w hA hS he h.2
    · exact h.elim
  | .block id c, K, st0, w0, A, a, st, w, hA, hS, he, h => by
    unfold W at h
    refine wp_block (wp_mono (so_code hG hD c _ st0 w0 A a st w hA hS he h) fun e a' w' ⟨A', st', hk, hA', hS', he'⟩ => ?_)
    cases e with
    | exit j =>
      simp only at hk
      show if j = id then Lift K st0 w0 .normal a' w' else Lift K st0 w0 (.exit j) a' w'
      by_cases hj : j = id
      · rw [if_pos hj] at hk ⊢; exact ⟨A', st', hk, hA', hS', he'⟩
      · rw [if_neg hj] at hk ⊢; exact ⟨A', st', hk, hA', hS', he'⟩
    | _ => exact ⟨A', st', hk, hA', hS', he'⟩
  | .loop c, K, st0, w0, A, a, st, w, hA, hS, he, h => by
    unfold W at h
    obtain ⟨keep, I, ⟨m0, h0⟩, hI⟩ := h
    let R : Nat → Act → World → Prop := fun m a w => ∃ B st, B.length = A.length ∧ I m (keep.map (fun i => B.getD i AV.junk)) st ∧ RelA w st B a ∧ RelS st w ∧ Evo st0 w0 st w
    obtain ⟨μ, hμ⟩ : ∃ μ : Act → World → Nat, ∀ a w, (∃ m, R m a w) → R (μ a w) a w ∧ ∀ n, R n a w → μ a w ≤ n := by
      have hex : ∀ x : Act × World, ∃ m, (∃ m, R m x.1 x.2) → R m x.1 x.2 ∧ ∀ n, R n x.1 x.2 → m ≤ n := fun x => by
        by_cases h : ∃ m, R m x.1 x.2
        · obtain ⟨m, h1, h2⟩ := least h
          exact ⟨m, fun _ => ⟨h1, h2⟩⟩
        · exact ⟨0, fun h' => absurd h' h⟩
      obtain ⟨f, hf⟩ := Classical.axiomOfChoice hex
      exact ⟨fun a w => f (a, w), fun a w h => hf (a, w) h⟩
    refine wp_loop (fun a w => ∃ m, R m a w) μ ⟨m0, A, st, rfl, h0, hA, hS, he⟩ fun a w hex => ?_
    obtain ⟨B, st', hBl, hi, hB, hS', he'⟩ := (hμ a w hex).1
    have hA' := spread_rep hB keep
    rw [hBl] at hA'
    refine wp_mono (so_code hG hD c _ st0 w0 _ a st' w hA' hS' he' (hI _ _ st' hi)) fun e a' w' ⟨A'', st'', hk, hA'', hS'', he''⟩ => ?_
    cases e with
    | normal =>
      obtain ⟨hlen', m', hm', hi'⟩ := hk
      have hex' : ∃ m, R m a' w' := ⟨m', A'', st'', hlen', hi', hA'', hS'', he''⟩
      exact ⟨hex', Nat.lt_of_le_of_lt ((hμ a' w' hex').2 m' ⟨A'', st'', hlen', hi', hA'', hS'', he''⟩) hm'⟩
    | _ => exact ⟨A'', st'', hk, hA'', hS'', he''⟩
  | .exit id, K, st0, w0, A, a, st, w, hA, hS, he, h => wp_exit ⟨A, st, h, hA, hS, he⟩
  | .ret, K, st0, w0, A, a, st, w, hA, hS, he, h => wp_ret ⟨A, st, h, hA, hS, he⟩
  | .rangeFunc _ _ _ _, K, st0, w0, A, a, st, w, hA, hS, he, h => h.elim
  | .scope _, K, st0, w0, A, a, st, w, hA, hS, he, h => h.elim
  | .label _, K, st0, w0, A, a, st, w, hA, hS, he, h => h.elim
  | .goto _, K, st0, w0, A, a, st, w, hA, hS, he, h => h.elim
  | .refuse _, K, st0, w0, A, a, st, w, hA, hS, he, h => h.elim

/-! ### functions -/
def aRes1 (T : Tab) (A : List AV) (st : St) (r : ResultVar) (k : AV → Prop) : Prop :=
  match r with
  | .tmp t => k (A.getD t .junk)
  | .cell t ty => aLoad T ty (A.getD t .junk) st (fun v _ => k v)
def aRess (T : Tab) (A : List AV) (st : St) : List ResultVar → (List AV → Prop) → Prop
  | [], k => k []
  | r :: rs, k => aRes1 T A st r fun v => aRess T A st rs fun vs => k (v :: vs)
def res1 (tmps : Array Value) : ResultVar → Sem Value
  | .tmp t => pure (tmps.getD t undef)
  | .cell p t => do loadVar t (← asAddr (tmps.getD p undef))
theorem results_eq (fn : Func) (tmps : Array Value) : results fn tmps = (do
    let vs ← fn.results.mapM (res1 tmps)
    pure (if h : vs.size = 1 then vs[0] else .tuple vs)) := by
  unfold results
  congr 1
def pack (vs : List AV) : AV := match vs with | [v] => v | vs => .tuple vs
theorem aRes1_ok {P : Program} {T : Tab} (hT : TOk P T) {w : World} {st : St} {A : List AV} {a : Act} (hA : RelA w st A a) (hS : RelS st w) {r : ResultVar} {k : AV → Prop} (h : aRes1 T A st r k) :
    ∃ v c, k v ∧ RepW w st v c ∧ (res1 a.tmps r).run P w = .ok c w := by
  cases r with
  | tmp t =>
    have := ev_rep hA (.tmp t)
    exact ⟨_, _, h, this, rfl⟩
  | cell p t =>
    have hp := ev_rep hA (.tmp p)
    simp only [aRes1] at h
    simp only [ev, Act.eval] at hp
    unfold aLoad at h
    split at h
    · exact h.elim
    rename_i row hrow
    suffices hmain : ∃ ad y u, a.tmps.getD p undef = .pointer (some ad) ∧ k y ∧ RepW w st y u ∧ (loadVar t ad).run P w = .ok u w by
      obtain ⟨ad, y, u, h1, h2, h3, h4⟩ := hmain
      refine ⟨y, u, h2, h3, ?_⟩
      simp only [res1, h1, asAddr, Sem.run_bind, Sem.run_pure, Result.andThen_ok, h4]
    generalize a.tmps.getD p undef = pv at hp
    generalize A.getD p .junk = pa at h hp
    cases hp with
    | fptr v' off ad g hr' hg' =>
      obtain ⟨y, u, hk, hy, hrun⟩ := run_loadVar_at hT hrow (w := w) (st := st) (a := ad) (fun j y hy => ⟨g j, rdOf_cell (hr' j (List.getElem?_eq_some_iff.1 hy).1), hg' j y hy⟩) h
      exact ⟨_, y, u, rfl, hk, hy, hrun⟩
    | optr e b i off =>
      simp only at h
      cases hb : st b with
      | none => rw [hb] at h; exact h.elim
      | some bk =>
        rw [hb] at h
        obtain ⟨he, hi, h⟩ := h
        obtain ⟨cs, hok⟩ := hS b bk hb
        obtain ⟨y, u, hk, hy, hrun⟩ := run_loadVar_at hT hrow (w := w) (st := st) (a := ⟨b, i * e, none⟩) (o := off) (fun j y hy => by
          obtain ⟨u, h1, h2⟩ := hok.cell i j y hi hy
          refine ⟨u, ?_, h2⟩
          rw [Addr.add_lit, cell_of_row w b _ cs bk.ty (0, 0) hok.heap, he]; exact h1) h
        rw [Addr.add_lit] at hrun
        exact ⟨_, y, u, rfl, hk, hy, hrun⟩
    | _ => exact h.elim
theorem aRess_ok {P : Program} {T : Tab} (hT : TOk P T) {w : World} {st : St} {A : List AV} {a : Act} (hA : RelA w st A a) (hS : RelS st w) : ∀ (rs : List ResultVar) (k : List AV → Prop), aRess T A st rs k →
    ∃ vs cs, k vs ∧ vs.length = cs.length ∧ (∀ (j : Nat) y c, vs[j]? = some y → cs[j]? = some c → RepW w st y c) ∧
      (rs.mapM (res1 a.tmps)).run P w = .ok cs w
  | [], k, h => ⟨[], [], h, rfl, fun j y c hy => by simp at hy, rfl⟩
  | r :: rs, k, h => by
    simp only [aRess] at h
    obtain ⟨v, c, hk, hv, hrun⟩ := aRes1_ok hT hA hS h
    obtain ⟨vs, cs, hk', hl, hr, hrun'⟩ := aRess_ok hT hA hS rs _ hk
    refine ⟨v :: vs, c :: cs, hk', by simp [hl], fun j y d hy hd => ?_, ?_⟩
    · cases j with
      | zero => simp at hy hd; subst hy; subst hd; exact hv
      | succ j => exact hr j y d (by simpa using hy) (by simpa using hd)
    · simp only [List.mapM_cons, Sem.run_bind]
      rw [hrun]
      simp only [Result.andThen_ok, hrun', Sem.run_pure]
def start (args : List AV) (n : Nat) : List AV := args ++ List.replicate (n - args.length) (.tuple [])
def Kend (T : Tab) (fn : Func) (post : KK) : Exit → KA := fun e A st => match e with
  | .normal => aRess T A st fn.results.toList fun vs => post (pack vs) st
  | .ret => aRess T A st fn.results.toList fun vs => post (pack vs) st
  | _ => False
theorem S_of_W {P : Program} {T : Tab} {M : MTab} {Dr : List Oper → List AV → St → KA → Prop} (hG : Good P T M) (hD : DrOk P Dr) {f : FuncId} {fn : Func} {c : Code} {args : List AV} {st : St} {post : KK}
    (hf : P.funcs[f]? = some fn) (hname : (fn.name == "runtime.NumGoroutine") = false) (hb : fn.body = some c) (h : W P T M Dr c (start args fn.ntmps) st (Kend T fn post)) : S P f args st post := by
  refine ⟨Go.Proofs.enters_of hf hname hb, fun cargs w hR hS => ?_⟩
  refine calls_of_wp hf hb (wp_mono (so_code hG hD c _ st w (start args fn.ntmps) _ st w ?_ hS (Evo.refl _ _) h) fun e a' w' ⟨A', st', hk, hA', hS', he'⟩ => ?_)
  · refine ⟨by simp [start, hR.1], fun i v hv => ?_, rfl⟩
    unfold start at hv
    rcases Nat.lt_or_ge i args.length with hi | hi
    · rw [List.getElem?_append_left hi] at hv
      have hi' : i < cargs.size := by rw [← hR.1]; exact hi
      exact ⟨cargs[i], by rw [Array.getElem?_append_left hi']; exact Array.getElem?_eq_getElem hi', hR.2 i v _ hv (Array.getElem?_eq_getElem hi')⟩
    · rw [List.getElem?_append_right hi] at hv
      have hlt := (List.getElem?_eq_some_iff.1 hv).1
      simp only [List.length_replicate] at hlt
      simp only [List.getElem?_replicate, hlt, if_true, Option.some.injEq] at hv
      subst hv
      refine ⟨undef, ?_, rep_undef _ _⟩
      rw [Array.getElem?_append_right (by rw [← hR.1]; exact hi), ← hR.1]
      rw [Array.getElem?_replicate, if_pos hlt]
  · have hres : (e = .normal ∨ e = .ret) → aRess T A' st' fn.results.toList (fun vs => post (pack vs) st') → a'.defers = [] ∧ ∃ v, (results fn a'.tmps).run P w' = .ok v w' ∧ ∃ v' c st'', post v' st'' ∧ Ending.returned v = .returned c ∧ RepW w' st'' v' c ∧ RelS st'' w' ∧ Evo st w st'' w' := by
      intro _ hr
      obtain ⟨vs, cs, hk', hl, hrep, hrun⟩ := aRess_ok hG.tab hA' hS' _ _ hr
      refine ⟨hA'.defers, if h : cs.toArray.size = 1 then cs.toArray[0] else .tuple cs.toArray, ?_, pack vs, _, st', hk', rfl, ?_, hS', he'⟩
      · rw [results_eq]
        simp only [Array.mapM_eq_mapM_toList, Sem.run_bind, Sem.run_map]
        rw [hrun]
        rfl
      · by_cases h1 : cs.length = 1
        · obtain ⟨c0, rfl⟩ := List.length_eq_one_iff.1 h1
          obtain ⟨v0, rfl⟩ := List.length_eq_one_iff.1 (hl.trans h1)
          exact hrep 0 v0 c0 rfl rfl
        · rw [dif_neg (by simpa using h1)]
          have : pack vs = .tuple vs := by
            unfold pack
            split
            · exact absurd hl.symm h1
            · rfl
          rw [this]
          exact .tuple _ _ (by simpa using hl) (fun j y c hy hc => hrep j y c hy (by simpa using hc))
    cases e with
    | normal => exact hres (.inl rfl) hk
    | ret => exact hres (.inr rfl) hk
    | _ => exact hk.elim
end Go.Ab
/- The abstract machine, part 9: the table of a program's types. -/
namespace Go.Ab
open Go
def plainOf (P : Program) (t : TypeId) (d : TypeDesc) : Bool := match d with | .struct fs => !P.stoodInHeld t && !P.eqGuardType P.depth t && fs.toList.all fun f => !(f.name == "_") | _ => false
def tabOf (P : Program) : Tab := fun t =>
  match P.underlying t, P.info? t with
  | some d, some i => match i.zero with
    | some z => match Nat.decEq (cellsOf (avOf z)).length z.cells.size with
      | .isTrue _ => some ⟨d, i.size, i.bytes, z, plainOf P t d⟩
      | .isFalse _ => none
    | none => none
  | _, _ => none
theorem tabOf_some {P : Program} {t : TypeId} {r : TRow} (h : tabOf P t = some r) : ∃ d i z, P.underlying t = some d ∧ P.info? t = some i ∧ i.zero = some z ∧ r = ⟨d, i.size, i.bytes, z, plainOf P t d⟩ ∧ (cellsOf (avOf z)).length = z.cells.size := by
  unfold tabOf at h
  split at h
  case h_2 => cases h
  rename_i d i hd hi
  split at h
  case h_2 => cases h
  rename_i z hz
  split at h
  case h_2 => cases h
  rename_i he _
  cases h
  exact ⟨d, i, z, hd, hi, hz, rfl, he⟩
theorem tabOf_ok (P : Program) : TOk P (tabOf P) := fun t r h => by
  obtain ⟨d, i, z, h1, h2, h3, rfl, _⟩ := tabOf_some h
  exact ⟨h1, i, h2, rfl, rfl, h3⟩
theorem tabOf_zero (P : Program) (t : TypeId) (r : TRow) (h : tabOf P t = some r) : zOk r := by
  obtain ⟨d, i, z, h1, h2, h3, rfl, h4⟩ := tabOf_some h
  exact h4
theorem tabOf_eqs (P : Program) : EqOk P (tabOf P) := fun t r h hp => by
  obtain ⟨d, i, z, h1, h2, h3, rfl, _⟩ := tabOf_some h
  simp only [plainOf] at hp
  split at hp
  · rename_i fs
    simp only [Bool.and_eq_true, Bool.not_eq_true', List.all_eq_true] at hp
    refine ⟨hp.1.1, hp.1.2, fun gs hg f hf he => ?_⟩
    cases hg
    have := hp.2 f hf
    rw [he] at this
    simp at this
  · cases hp
/-- A table that is looked up by halves. -/
inductive TT where
  | leaf
  | node (l : TT) (k : Nat) (r : TRow) (g : TT)
def TT.find : TT → Nat → Option TRow
  | .leaf, _ => none
  | .node l k r g, t => match Nat.beq t k with
    | true => some r
    | false => match Nat.blt t k with
      | true => l.find t
      | false => g.find t
def TT.All (Q : Nat → TRow → Prop) : TT → Prop
  | .leaf => True
  | .node l k r g => l.All Q ∧ Q k r ∧ g.All Q
theorem TT.find_all {Q : Nat → TRow → Prop} : ∀ (x : TT) (t : Nat) (r : TRow), x.All Q → x.find t = some r → Q t r
  | .leaf, t, r, _, h => by cases h
  | .node l k r' g, t, r, ha, h => by
    unfold TT.find at h
    split at h
    · rename_i hb
      cases h
      rw [Nat.eq_of_beq_eq_true hb]; exact ha.2.1
    · split at h
      · exact TT.find_all l t r ha.1 h
      · exact TT.find_all g t r ha.2.2 h
theorem good_of {P : Program} {x : TT} {M : MTab} (hx : x.All fun t r => tabOf P t = some r) (hM : MOk P M) : Good P x.find M :=
  ⟨fun t r h => tabOf_ok P t r (TT.find_all x t r hx h), fun t r h => tabOf_eqs P t r (TT.find_all x t r hx h), fun t r h => tabOf_zero P t r (TT.find_all x t r hx h), hM⟩
end Go.Ab
