/- Part 0 of the proof: contracts of the functions that the law reaches -/
import Derived.Tactics
import Derived.RowKit3
import Derived.ArgAppend
import Derived.Orders
import Derived.Laws.Rows
import Derived.Laws.Cells
import Derived.Below
namespace Go
abbrev D5A:=@List.getD_eq_getElem?_getD
abbrev D5B:=@decide_eq_false_iff_not
abbrev D5C:=@decide_eq_true_eq
abbrev D5D:=@of_decide_eq_true
abbrev D5E:=@of_decide_eq_false
abbrev D5F:=@List.length_map
abbrev D5G:=@Bool.and_eq_true
abbrev D5H:=@decide_eq_false
abbrev D5I:=@List.getElem?_eq_getElem
abbrev D5J:=@Nat.le_refl
abbrev D5K:=@List.length_take
abbrev D5L:=@List.take_length
abbrev D5M:=@List.length_append
abbrev D5N:=@Int.toNat_natCast
abbrev D5O:=@List.getElem?_take_of_lt
abbrev D5P:=@Bool.true_and
abbrev D5Q:=@Bool.not_eq_true'
abbrev D5R:=@Nat.zero_add
abbrev D5S:=@List.getElem?_eq_some_iff
abbrev D5T:=@Array.getElem?_eq_getElem
abbrev D5U:=@List.mem_range
abbrev D5V:=@List.all_eq_true
abbrev D5W:=@List.getElem?_append_left
abbrev D5X:=@List.mem_map
abbrev D5Y:=@List.getElem?_append_right
abbrev D5Z:=@Bool.false_and
abbrev D6a:=@List.mem_cons_of_mem
abbrev D6b:=@Nat.zero_le
abbrev D6c:=@List.mem_cons_self
abbrev D6d:=@List.length_range
abbrev D6e:=@Bool.and_false
abbrev D6f:=@List.mem_singleton
abbrev D6g:=@Bool.not_eq_false'
abbrev D6h:=@Bool.not_false
abbrev D6i:=@List.map_append
abbrev D6j:=@Int.le_refl
abbrev D6k:=@List.eq_nil_of_length_eq_zero
abbrev D6l:=@beq_eq_false_iff_ne
abbrev D6m:=@decide_eq_true
abbrev D6n:=@List.length_cons
abbrev D6o:=@Bool.false_or
abbrev D6p:=@Bool.not_true
abbrev D6q:=@Bool.or_true
abbrev D6r:=@Array.getElem?_toList
abbrev D6s:=@Bool.or_false
abbrev D6t:=@Bool.and_true
abbrev D6u:=@Int.fdiv_eq_ediv_of_nonneg
abbrev D6v:=@Bool.true_or
abbrev D6w:=@Nat.lt_succ_iff_lt_or_eq
abbrev D6x:=@Int.mul_le_mul_of_nonneg_left
abbrev D6y:=@List.getElem?_map
abbrev D6z:=@beq_iff_eq
abbrev D6A:=@Array.getElem?_eq_some_iff
abbrev D6B:=@Bool.not_eq_true
abbrev D6C:=@Nat.mul_le_mul_right
abbrev D6D:=@List.mem_filter
abbrev D6E:=@List.take_subset
abbrev D6F:=@List.any_eq_false
abbrev D6G:=@List.filter_cons_of_pos
abbrev D6H:=@Bool.or_eq_true
abbrev D6I:=@List.map_cons
abbrev D6J:=@List.length_replicate
abbrev D6K:=@Int.mul_ediv_add_emod
abbrev D6L:=@Int.emod_lt_of_pos
abbrev D6M:=@List.length_set
abbrev D6N:=@List.filter_cons_of_neg
abbrev D6O:=@Option.bind_eq_some_iff
abbrev D6P:=@Bool.or_eq_false_iff
abbrev D6Q:=@List.mem_append
abbrev D6R:=@Nat.le_trans
abbrev D6S:=@List.map_congr_left
abbrev D6T:=@List.length_nil
abbrev D6U:=@Bool.not_not
abbrev D6V:=@Int.tdiv_eq_ediv_of_nonneg
abbrev D6W:=@List.foldl_cons
abbrev D6X:=@Int.emod_nonneg
abbrev D6Y:=@Nat.eq_zero_or_pos
abbrev D6Z:=@List.getElem_mem
abbrev D7a:=@Int.mul_nonneg
abbrev D7b:=@List.append_assoc
abbrev D7c:=@List.mem_cons
abbrev D7d:=@Int.ediv_lt_iff_lt_mul
abbrev D7e:=@List.getElem?_range
abbrev D7f:=@List.not_mem_nil
abbrev D7g:=@Nat.lt_or_ge
abbrev D7h:=@Int.ediv_nonneg
abbrev D7i:=@List.range_succ
abbrev D7j:=@List.pairwise_iff_getElem
abbrev D7k:=@Bool.eq_false_iff
abbrev D7l:=@List.getElem?_drop
abbrev D7m:=@List.any_eq_true
abbrev D7n:=@List.pairwise_cons
abbrev D7o:=@List.take_zero
abbrev D7p:=@Int.tmod_eq_emod_of_nonneg
abbrev D7q:=@decide_eq_decide
abbrev D7r:=@beq_false_of_ne
abbrev D7s:=@Int.toNat_of_nonneg
abbrev D7t:=@List.take_of_length_le
abbrev D7u:=@List.getElem?_set_ne
abbrev D7v:=@List.append_nil
abbrev D7w:=@Bool.false_eq_true
abbrev D7x:=@List.filter_append
abbrev D7y:=@Nat.eq_of_beq_eq_true
abbrev D7z:=@Int.mul_le_mul_of_nonneg_right
abbrev D7A:=@List.getElem_of_mem
abbrev D7B:=@congrArg
abbrev D7C:=@List.filter_sublist
abbrev D7D:=@List.getElem?_set
abbrev D7E:=@List.drop_eq_getElem_cons
abbrev D7F:=@List.take_succ_eq_append_getElem
abbrev D7G:=@Option.map_some
abbrev D7H:=@Int.le_of_lt
abbrev D7I:=@Bool.and_eq_false_iff
abbrev D7J:=@Bool.coe_iff_coe
abbrev D7K:=@Option.some.injEq
abbrev D7L:=@Nat.add_mul
abbrev D7M:=@Int.mul_add
abbrev D7N:=@Int.add_zero
abbrev D7O:=@beq_self_eq_true
abbrev D7P:=@List.foldl_append
abbrev D7Q:=@Int.mul_comm
abbrev D7R:=@List.take_append_drop
abbrev D7S:=@List.getElem?_replicate
abbrev D7T:=@List.pairwise_mergeSort
abbrev D7U:=@Nat.add_zero
abbrev D7V:=@List.cons_append
abbrev D7W:=@Array.getElem?_eq_none
abbrev D7X:=@Bool.not_eq_false
abbrev D7Y:=@Int.mul_le_mul
abbrev D7Z:=@List.mem_of_find?_eq_some
abbrev D8a:=@List.map_map
abbrev D8b:=@List.getElem?_eq_none
abbrev D8c:=@List.length_filter_le
abbrev D8d:=@List.singleton_append
abbrev D8e:=@bne_iff_ne
abbrev D8f:=@List.find?_eq_none
abbrev D8g:=@Int.add_mul
abbrev D8h:=@List.length_drop
abbrev D8i:=@List.ext_getElem
abbrev D8j:=@if_false
abbrev D8k:=@Nat.add_assoc
abbrev D8l:=@List.getElem?_cons_succ
abbrev D8m:=@Nat.blt_eq
abbrev D8n:=@List.drop_sublist
abbrev D8o:=@List.mergeSort_perm
abbrev D8p:=@List.mem_map_of_mem
abbrev D8q:=@List.find?_cons_of_pos
abbrev D8r:=@List.find?_cons_of_neg
abbrev D8s:=@Array.getElem?_append_left
abbrev D8t:=@Nat.lt_succ_self
abbrev D8u:=@Array.getElem?_modify
abbrev D8v:=@Int.mul_assoc
abbrev D8w:=@Int.le_trans
abbrev D8x:=@List.Pairwise.sublist
abbrev D8y:=@Int.mul_one
abbrev D8z:=@List.mem_of_mem_take
abbrev D8A:=@Int.zero_mul
abbrev D8B:=@List.getD_cons_zero
abbrev D8C:=@Nat.mod_eq_of_lt
abbrev D8D:=@Nat.eq_or_lt_of_le
abbrev D8E:=@List.map_nil
abbrev D8F:=@List.nil_append
abbrev D8G:=@Bool.eq_iff_iff
abbrev D8H:=@Nat.min_eq_left
abbrev D8I:=@Bool.beq_comm
end Go
set_option linter.unusedVariables false
set_option linter.unusedSimpArgs false
namespace Go.Ab
open Go
inductive AV where
 | bool (b:Bool)
 | int (k:IntKind) (n:Int)
 | str (s:ByteArray)
 | nilp
 | nilf
 | nili
 | emp
 | arr (e n:Nat) (f:Nat→AV)
 | fptr (v:AV) (r:Nat)
 | own (e b off n:Nat)
 | cown (e b n c:Nat)
 | optr (e b i r:Nat)
 | agg (cs:List AV)
 | fn (f:Fn) (first captured:List AV)
 | iface (t:TypeId) (v:AV)
 | tuple (vs:List AV)
 | ubool
 | junk
instance:Inhabited AV:=⟨.junk⟩
def AV.one:AV→Bool
 | .agg _=>false
 | .tuple _=>false
 | .junk=>false
 | _=>true
def cellsOf:AV→List AV
 | .agg cs=>cs
 | .tuple _=>[]
 | .junk=>[]
 | v=>[v]
inductive Rep (rd:Addr→Option Value) (sz:Nat→Nat):AV→Value→Prop
 | bool (b:Bool):Rep rd sz (.bool b) (.bool b)
 | int (k:IntKind) (n:Int):Rep rd sz (.int k n) (.int k n)
 | str (s:ByteArray):Rep rd sz (.str s) (.string s)
 | nilp:Rep rd sz .nilp (.pointer none)
 | nilf:Rep rd sz .nilf .nilFunc
 | nili:Rep rd sz .nili .nilIface
 | emp (A:Option Addr):Rep rd sz .emp (.slice A 0 0)
 | arr (e n:Nat) (f:Nat→AV) (A:Option Addr) (c:Nat) (g:Nat→Nat→Value) (hc:n≤c) (hA:0<n→∃ a,A=some a)
   (hl:∀ i,i<n→(cellsOf (f i)).length=e) (ho:∀ i,i<n→(cellsOf (f i)).all AV.one=true)
   (hr:∀ a,A=some a→∀ i j,i<n→j<e→rd (a.add (i * e+j))=some (g i j))
   (hg:∀ (i j:Nat) (y:AV),i<n→(cellsOf (f i))[j]?=some y→Rep rd sz y (g i j)):Rep rd sz (.arr e n f) (.slice A n c)
 | fptr (v:AV) (r:Nat) (a:Addr) (g:Nat→Value)
   (hr:∀ j,j<(cellsOf v).length→rd (a.add j)=some (g j))
   (hg:∀ (j:Nat) (y:AV),(cellsOf v)[j]?=some y→Rep rd sz y (g j)):Rep rd sz (.fptr v r) (.pointer (some (a.add r)))
 | own (e b off n c:Nat) (hc:n≤c) (hs:(off+c) * e≤sz b):Rep rd sz (.own e b off n) (.slice (some ⟨b,off * e,none⟩) n c)
 | cown (e b n c:Nat) (hc:n≤c) (hs:c * e≤sz b):Rep rd sz (.cown e b n c) (.slice (some ⟨b,0,none⟩) n c)
 | optr (e b i r:Nat):Rep rd sz (.optr e b i r) (.pointer (some ⟨b,i * e+r,none⟩))
 | agg (cs:List AV) (vs:Array Value) (hl:cs.length=vs.size) (hg:∀ (j:Nat) (y:AV) (c:Value),cs[j]?=some y→vs[j]?=some c→Rep rd sz y c):Rep rd sz (.agg cs) (.agg vs)
 | fn (f:Fn) (fs cs:List AV) (gs ds:Array Value) (hl:fs.length=gs.size) (hl':cs.length=ds.size)
   (hg:∀ (j:Nat) (y:AV) (c:Value),fs[j]?=some y→gs[j]?=some c→Rep rd sz y c) (hd:∀ (j:Nat) (y:AV) (c:Value),cs[j]?=some y→ds[j]?=some c→Rep rd sz y c) :
   Rep rd sz (.fn f fs cs) (.func f gs ds)
 | iface (t:TypeId) (v:AV) (c:Value) (h:Rep rd sz v c):Rep rd sz (.iface t v) (.iface t c)
 | tuple (cs:List AV) (vs:Array Value) (hl:cs.length=vs.size) (hg:∀ (j:Nat) (y:AV) (c:Value),cs[j]?=some y→vs[j]?=some c→Rep rd sz y c):Rep rd sz (.tuple cs) (.tuple vs)
 | ubool (b:Bool):Rep rd sz .ubool (.bool b)
 | junk (c:Value):Rep rd sz .junk c
theorem Rep.mono {rd rd':Addr→Option Value} {sz sz':Nat→Nat} (h1:∀ a v,rd a=some v→rd' a=some v) (h2:∀ b,sz b≤sz' b) {v:AV} {c:Value}
  (h:Rep rd sz v c):Rep rd' sz' v c:=by
 induction h with
 | bool b=>exact .bool b
 | int k n=>exact .int k n
 | str s=>exact .str s
 | nilp=>exact .nilp
 | nilf=>exact .nilf
 | nili=>exact .nili
 | emp A=>exact .emp A
 | arr e n f A c g hc hA hl ho hr hg ih=>exact .arr e n f A c g hc hA hl ho (fun a ha i j hi hj=>h1 _ _ (hr a ha i j hi hj)) (fun i j y hi hy=>ih i j y hi hy)
 | fptr v r a g hr hg ih=>exact .fptr v r a g (fun j hj=>h1 _ _ (hr j hj)) (fun j y hy=>ih j y hy)
 | own e b off n c hc hs=>exact .own e b off n c hc (D6R hs (h2 b))
 | cown e b n c hc hs=>exact .cown e b n c hc (D6R hs (h2 b))
 | optr e b i r=>exact .optr e b i r
 | agg cs vs hl hg ih=>exact .agg cs vs hl (fun j y c hy hc=>ih j y c hy hc)
 | fn f fs cs gs ds hl hl' hg hd ih ih'=>exact .fn f fs cs gs ds hl hl' (fun j y c hy hc=>ih j y c hy hc) (fun j y c hy hc=>ih' j y c hy hc)
 | iface t v c h ih=>exact .iface t v c ih
 | tuple cs vs hl hg ih=>exact .tuple cs vs hl (fun j y c hy hc=>ih j y c hy hc)
 | ubool b=>exact .ubool b
 | junk c=>exact .junk c
theorem Rep.one {rd:Addr→Option Value} {sz:Nat→Nat} {v:AV} {c:Value} (h:Rep rd sz v c) (h1:v.one=true):c.oneCell'=true∧c.cells=#[c]∧cellsOf v=[v]:=by
 cases h<;>first | (simp [AV.one] at h1;done) | exact ⟨rfl,rfl,rfl⟩
structure K8 where
 ty:TypeId
 e:Nat
 n:Nat
 f:Nat→AV
abbrev St:=Nat→Option K8
def upd (st:St) (b:Nat) (x:K8):St:=fun c=>if c=b then some x else st c
def del (st:St) (b:Nat):St:=fun c=>if c=b then none else st c
def A3z (w:World) (st:St) (a:Addr):Option Value:=match st a.block with | none=>w.cell? a | some _=>none
def A1s (w:World) (b:Nat):Nat:=match w.heap[b]? with | some (.cells c _ _)=>c.size | _=>0
abbrev M0 (w:World) (st:St):AV→Value→Prop:=Rep (A3z w st) (A1s w)
structure A2l (w:World) (st:St) (b:Nat) (x:K8) (cs:Array Value):Prop where
 heap:w.heap[b]?=some (.cells cs x.ty (0,0))
 size:x.n * x.e≤cs.size
 len:∀ i,i<x.n→(cellsOf (x.f i)).length=x.e
 one:∀ i,i<x.n→(cellsOf (x.f i)).all AV.one=true
 cell:∀ (i j:Nat) (y:AV),i<x.n→(cellsOf (x.f i))[j]?=some y→∃ c,cs[i * x.e+j]?=some c∧M0 w st y c
def I3 (st:St) (w:World):Prop:=∀ b x,st b=some x→∃ cs,A2l w st b x cs
structure Evo (st:St) (w:World) (st':St) (w':World):Prop where
 os:w'.os=w.os
 tape:w'.tape=w.tape
 output:w'.output=w.output
 size:w.heap.size≤w'.heap.size
 blk:∀ b,b<w.heap.size→st b=none→w'.heap[b]?=w.heap[b]?∧st' b=none
 szm:∀ b,A1s w b≤A1s w' b
theorem Evo.refl (st:St) (w:World):Evo st w st w:=⟨rfl,rfl,rfl,D5J _,fun _ _ h=>⟨rfl,h⟩,fun _=>D5J _⟩
theorem Evo.trans {s0 s1 s2:St} {w0 w1 w2:World} (h:Evo s0 w0 s1 w1) (k:Evo s1 w1 s2 w2):Evo s0 w0 s2 w2 :=
 ⟨k.os.trans h.os,k.tape.trans h.tape,k.output.trans h.output,D6R h.size k.size,
 fun b hb hs=>by
  obtain ⟨h1,h2⟩:=h.blk b hb hs
  obtain ⟨k1,k2⟩:=k.blk b (Nat.lt_of_lt_of_le hb h.size) h2
  exact ⟨k1.trans h1,k2⟩,
 fun b=>D6R (h.szm b) (k.szm b)⟩
theorem B2J {w w':World} {a:Addr} (h:w'.heap[a.block]?=w.heap[a.block]?):w'.cell? a=w.cell? a:=by
 unfold World.cell?;rw [h]
theorem C2J {w:World} {a:Addr} {v:Value} (h:w.cell? a=some v):a.block<w.heap.size:=block_lt_of_cell h
theorem Evo.rd {st st':St} {w w':World} (h:Evo st w st' w') (a:Addr) (v:Value) (hr:A3z w st a=some v):A3z w' st' a=some v:=by
 unfold A3z at *
 cases hs:st a.block with
 | some x=>rw [hs] at hr;cases hr
 | none =>
  rw [hs] at hr
  obtain ⟨h1,h2⟩:=h.blk a.block (C2J hr) hs
  rw [h2]
  show w'.cell? a=some v
  rw [B2J h1];exact hr
theorem Evo.rep {st st':St} {w w':World} (h:Evo st w st' w') {v:AV} {c:Value} (hr:M0 w st v c):M0 w' st' v c:=hr.mono h.rd h.szm
structure P1 (w:World) (st:St) (A:List AV) (a:Act):Prop where
 len:A.length=a.tmps.size
 at_:∀ (i:Nat) (v:AV),A[i]?=some v→∃ c,a.tmps[i]?=some c∧M0 w st v c
 defers:a.defers=[]
theorem P1.evo {st st':St} {w w':World} {A:List AV} {a:Act} (h:P1 w st A a) (he:Evo st w st' w'):P1 w' st' A a :=
 ⟨h.len,fun i v hv=>by obtain ⟨c,h1,h2⟩:=h.at_ i v hv;exact ⟨c,h1,he.rep h2⟩,h.defers⟩
def K4 (A:List AV) (d:Option Tmp) (v:AV):List AV:=match d with | some i=>A.set i v | none=>A
theorem P1.put {st:St} {w:World} {A:List AV} {a:Act} (h:P1 w st A a) (d:Option Tmp) {v:AV} {c:Value} (hv:M0 w st v c):P1 w st (K4 A d v) (a.put d c):=by
 cases d with
 | none=>exact h
 | some i =>
  refine ⟨by simp [K4,Act.put,h.len],fun j u hu=>?_,h.defers⟩
  simp only [K4,D7D] at hu
  simp only [Act.put,Array.getElem?_setIfInBounds]
  by_cases hij:i=j
  ·subst hij
   rw [if_pos rfl] at hu
   split at hu
   ·rename_i hlt
    simp only [D7K] at hu
    subst hu
    have:i<a.tmps.size:=by rw [←h.len];exact hlt
    exact ⟨c,by simp [this],hv⟩
   ·cases hu
  ·rw [if_neg hij] at hu
   rw [if_neg hij]
   exact h.at_ j u hu
def C2C:Value→AV
 | .bool b=>.bool b
 | .int k n=>.int k n
 | .string s=>.str s
 | .pointer a=>match a with | none=>.nilp | some _=>.junk
 | .slice a l c=>match a with | none=>(match l,c with | 0,0=>.emp | _,_=>.junk) | some _=>.junk
 | .nilFunc=>.nilf
 | .nilIface=>.nili
 | .tuple vs=>match vs.toList with | []=>.tuple [] | _::_=>.junk
 | _=>.junk
def H2:Value→AV
 | .agg cs=>.agg (cs.toList.map C2C)
 | v=>C2C v
theorem B3i (rd:Addr→Option Value) (sz:Nat→Nat) (v:Value):Rep rd sz (C2C v) v:=by
 cases v with
 | bool b=>exact .bool _
 | int k n=>exact .int _ _
 | string s=>exact .str _
 | pointer a=>cases a with
  | none=>exact .nilp
  | some a=>exact .junk _
 | slice a l c=>cases a with
  | none=>cases l with
   | zero=>cases c with
    | zero=>exact .emp _
    | succ c=>exact .junk _
   | succ l=>exact .junk _
  | some a=>exact .junk _
 | nilFunc=>exact .nilf
 | nilIface=>exact .nili
 | tuple vs =>
  obtain ⟨l⟩:=vs
  cases l with
  | nil=>exact .tuple _ _ rfl (fun j y c h=>by simp at h)
  | cons x l=>exact .junk _
 | _=>exact .junk _
theorem B0Q (rd:Addr→Option Value) (sz:Nat→Nat) (v:Value):Rep rd sz (H2 v) v:=by
 unfold H2
 split
 ·refine .agg _ _ (by simp) fun j y c hy hc=>?_
  simp only [D6y,D6r] at hy
  rw [hc] at hy
  simp only [D7G,D7K] at hy
  subst hy
  exact B3i rd sz c
 ·exact B3i rd sz v
def ev (A:List AV):Operand→AV
 | .tmp t=>A.getD t .junk
 | .const v=>H2 v
 | .global _=>.junk
 | .func f=>.fn (.func f) [] []
theorem H8 {w:World} {st:St} {A:List AV} {a:Act} (h:P1 w st A a) (x:Operand):M0 w st (ev A x) (a.eval x):=by
 cases x with
 | tmp t =>
  simp only [ev,Act.eval]
  rw [D5A,Array.getD_eq_getD_getElem?]
  cases hA:A[t]? with
  | none=>exact .junk _
  | some v =>
   obtain ⟨c,h1,h2⟩:=h.at_ t v hA
   rw [h1];exact h2
 | const v=>exact B0Q _ _ v
 | global g=>exact .junk _
 | func f=>exact .fn _ _ _ _ _ rfl rfl (fun j y c h=>by simp at h) (fun j y c h=>by simp at h)
end Go.Ab
