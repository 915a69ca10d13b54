/- Part 0 of the proof: contracts of the functions that the law reaches -/
import Derived.Tactics
import Derived.RowKit3
import Derived.ArgAppend
import Derived.Orders
import Derived.Laws.Rows
import Derived.Laws.Cells
import Derived.Below
namespace Go
abbrev D6D:=@List.getD_eq_getElem?_getD
abbrev D6E:=@decide_eq_false_iff_not
abbrev D6F:=@decide_eq_true_eq
abbrev D6G:=@of_decide_eq_false
abbrev D6H:=@of_decide_eq_true
abbrev D6I:=@Bool.and_eq_true
abbrev D6J:=@List.length_map
abbrev D6K:=@List.getElem?_eq_getElem
abbrev D6L:=@decide_eq_false
abbrev D6M:=@Nat.le_refl
abbrev D6N:=@List.length_take
abbrev D6O:=@List.take_length
abbrev D6P:=@List.length_append
abbrev D6Q:=@Nat.zero_add
abbrev D6R:=@Int.toNat_natCast
abbrev D6S:=@List.getElem?_take_of_lt
abbrev D6T:=@List.mem_range
abbrev D6U:=@List.getElem?_eq_some_iff
abbrev D6V:=@Array.getElem?_eq_getElem
abbrev D6W:=@List.all_eq_true
abbrev D6X:=@Bool.not_eq_true'
abbrev D6Y:=@Bool.true_and
abbrev D6Z:=@List.mem_map
abbrev D7a:=@List.getElem?_append_right
abbrev D7b:=@List.getElem?_append_left
abbrev D7c:=@Bool.false_and
abbrev D7d:=@List.mem_cons_of_mem
abbrev D7e:=@Nat.zero_le
abbrev D7f:=@List.mem_cons_self
abbrev D7g:=@List.length_range
abbrev D7h:=@Bool.and_false
abbrev D7i:=@List.mem_singleton
abbrev D7j:=@Bool.not_false
abbrev D7k:=@List.map_append
abbrev D7l:=@Int.le_refl
abbrev D7m:=@decide_eq_true
abbrev D7n:=@List.eq_nil_of_length_eq_zero
abbrev D7o:=@List.length_cons
abbrev D7p:=@beq_eq_false_iff_ne
abbrev D7q:=@Bool.not_eq_false'
abbrev D7r:=@Bool.false_or
abbrev D7s:=@Bool.not_true
abbrev D7t:=@Array.getElem?_toList
abbrev D7u:=@Bool.and_true
abbrev D7v:=@Bool.or_true
abbrev D7w:=@Bool.or_false
abbrev D7x:=@Int.fdiv_eq_ediv_of_nonneg
abbrev D7y:=@Int.mul_le_mul_of_nonneg_left
abbrev D7z:=@Bool.true_or
abbrev D7A:=@Nat.lt_succ_iff_lt_or_eq
abbrev D7B:=@beq_iff_eq
abbrev D7C:=@List.getElem?_map
abbrev D7D:=@Array.getElem?_eq_some_iff
abbrev D7E:=@Nat.mul_le_mul_right
abbrev D7F:=@List.mem_filter
abbrev D7G:=@List.take_subset
abbrev D7H:=@List.map_cons
abbrev D7I:=@List.filter_cons_of_pos
abbrev D7J:=@Bool.or_eq_true
abbrev D7K:=@Bool.not_eq_true
abbrev D7L:=@List.length_replicate
abbrev D7M:=@Int.mul_ediv_add_emod
abbrev D7N:=@Int.emod_lt_of_pos
abbrev D7O:=@List.filter_cons_of_neg
abbrev D7P:=@Option.bind_eq_some_iff
abbrev D7Q:=@Bool.or_eq_false_iff
abbrev D7R:=@List.any_eq_false
abbrev D7S:=@Nat.le_trans
abbrev D7T:=@List.mem_append
abbrev D7U:=@List.foldl_cons
abbrev D7V:=@List.map_congr_left
abbrev D7W:=@List.length_set
abbrev D7X:=@List.length_nil
abbrev D7Y:=@Bool.not_not
abbrev D7Z:=@Int.tdiv_eq_ediv_of_nonneg
abbrev D8a:=@Int.emod_nonneg
abbrev D8b:=@Nat.eq_zero_or_pos
abbrev D8c:=@List.getElem_mem
abbrev D8d:=@Int.mul_nonneg
abbrev D8e:=@List.append_assoc
abbrev D8f:=@List.mem_cons
abbrev D8g:=@Int.ediv_lt_iff_lt_mul
abbrev D8h:=@List.take_zero
abbrev D8i:=@List.getElem?_range
abbrev D8j:=@List.not_mem_nil
abbrev D8k:=@Nat.lt_or_ge
abbrev D8l:=@Int.ediv_nonneg
abbrev D8m:=@List.range_succ
abbrev D8n:=@List.pairwise_iff_getElem
abbrev D8o:=@List.getElem?_drop
abbrev D8p:=@List.pairwise_cons
abbrev D8q:=@Int.tmod_eq_emod_of_nonneg
abbrev D8r:=@List.any_eq_true
abbrev D8s:=@decide_eq_decide
abbrev D8t:=@beq_false_of_ne
abbrev D8u:=@Int.toNat_of_nonneg
abbrev D8v:=@List.take_of_length_le
abbrev D8w:=@List.getElem?_set_ne
abbrev D8x:=@Bool.eq_false_iff
abbrev D8y:=@List.append_nil
abbrev D8z:=@Bool.false_eq_true
abbrev D8A:=@List.filter_append
abbrev D8B:=@Nat.eq_of_beq_eq_true
abbrev D8C:=@Int.mul_le_mul_of_nonneg_right
abbrev D8D:=@List.getElem_of_mem
abbrev D8E:=@congrArg
abbrev D8F:=@List.filter_sublist
abbrev D8G:=@List.getElem?_set
abbrev D8H:=@List.foldl_append
abbrev D8I:=@List.drop_eq_getElem_cons
abbrev D8J:=@List.take_succ_eq_append_getElem
abbrev D8K:=@Option.map_some
abbrev D8L:=@Int.le_of_lt
abbrev D8M:=@Bool.and_eq_false_iff
abbrev D8N:=@Bool.coe_iff_coe
abbrev D8O:=@Option.some.injEq
abbrev D8P:=@Nat.add_mul
abbrev D8Q:=@Int.mul_add
abbrev D8R:=@Int.add_zero
abbrev D8S:=@beq_self_eq_true
abbrev D8T:=@Int.mul_comm
abbrev D8U:=@List.take_append_drop
abbrev D8V:=@List.getElem?_replicate
abbrev D8W:=@List.pairwise_mergeSort
abbrev D8X:=@Nat.add_zero
abbrev D8Y:=@List.map_map
abbrev D8Z:=@List.cons_append
abbrev D9a:=@List.ext_getElem
abbrev D9b:=@Array.getElem?_eq_none
abbrev D9c:=@Bool.not_eq_false
abbrev D9d:=@Int.mul_le_mul
abbrev D9e:=@List.mem_of_find?_eq_some
abbrev D9f:=@List.getElem?_eq_none
abbrev D9g:=@List.length_filter_le
abbrev D9h:=@List.singleton_append
abbrev D9i:=@List.find?_eq_none
abbrev D9j:=@Int.add_mul
abbrev D9k:=@List.length_drop
abbrev D9l:=@if_false
abbrev D9m:=@Nat.add_assoc
abbrev D9n:=@List.getElem?_cons_succ
abbrev D9o:=@Nat.blt_eq
abbrev D9p:=@bne_iff_ne
abbrev D9q:=@List.drop_sublist
abbrev D9r:=@List.mergeSort_perm
abbrev D9s:=@List.mem_map_of_mem
abbrev D9t:=@List.find?_cons_of_pos
abbrev D9u:=@List.find?_cons_of_neg
abbrev D9v:=@Array.getElem?_append_left
abbrev D9w:=@Nat.lt_succ_self
abbrev D9x:=@Array.getElem?_modify
abbrev D9y:=@Int.mul_assoc
abbrev D9z:=@Int.le_trans
abbrev D9A:=@List.Pairwise.sublist
abbrev D9B:=@Int.mul_one
abbrev D9C:=@List.mem_of_mem_take
abbrev D9D:=@Int.zero_mul
abbrev D9E:=@List.getD_cons_zero
abbrev D9F:=@Nat.mod_eq_of_lt
abbrev D9G:=@Nat.eq_or_lt_of_le
abbrev D9H:=@List.map_nil
abbrev D9I:=@List.nil_append
abbrev D9J:=@Bool.eq_iff_iff
abbrev D9K:=@Nat.min_eq_left
abbrev D9L:=@Bool.beq_comm
end Go
set_option linter.unusedVariables false
set_option linter.unusedSimpArgs false
namespace Go.Ab
open Go
inductive AV where
 | bool (b:Bool)
 | int (k:IntKind) (n:Int)
 | str (s:ByteArray)
 | nilp
 | nilf
 | nili
 | emp
 | arr (e n:Nat) (f:Nat→AV)
 | fptr (v:AV) (r:Nat)
 | own (e b off n:Nat)
 | cown (e b n c:Nat)
 | optr (e b i r:Nat)
 | agg (cs:List AV)
 | fn (f:Fn) (first captured:List AV)
 | iface (t:TypeId) (v:AV)
 | tuple (vs:List AV)
 | ubool
 | junk
instance:Inhabited AV:=⟨.junk⟩
def AV.one:AV→Bool
 | .agg _=>false
 | .tuple _=>false
 | .junk=>false
 | _=>true
def cellsOf:AV→List AV
 | .agg cs=>cs
 | .tuple _=>[]
 | .junk=>[]
 | v=>[v]
inductive Rep (rd:Addr→Option Value) (sz:Nat→Nat):AV→Value→Prop
 | bool (b:Bool):Rep rd sz (.bool b) (.bool b)
 | int (k:IntKind) (n:Int):Rep rd sz (.int k n) (.int k n)
 | str (s:ByteArray):Rep rd sz (.str s) (.string s)
 | nilp:Rep rd sz .nilp (.pointer none)
 | nilf:Rep rd sz .nilf .nilFunc
 | nili:Rep rd sz .nili .nilIface
 | emp (A:Option Addr):Rep rd sz .emp (.slice A 0 0)
 | arr (e n:Nat) (f:Nat→AV) (A:Option Addr) (c:Nat) (g:Nat→Nat→Value) (hc:n≤c) (hA:0<n→∃ a,A=some a)
   (hl:∀ i,i<n→(cellsOf (f i)).length=e) (ho:∀ i,i<n→(cellsOf (f i)).all AV.one=true)
   (hr:∀ a,A=some a→∀ i j,i<n→j<e→rd (a.add (i * e+j))=some (g i j))
   (hg:∀ (i j:Nat) (y:AV),i<n→(cellsOf (f i))[j]?=some y→Rep rd sz y (g i j)):Rep rd sz (.arr e n f) (.slice A n c)
 | fptr (v:AV) (r:Nat) (a:Addr) (g:Nat→Value)
   (hr:∀ j,j<(cellsOf v).length→rd (a.add j)=some (g j))
   (hg:∀ (j:Nat) (y:AV),(cellsOf v)[j]?=some y→Rep rd sz y (g j)):Rep rd sz (.fptr v r) (.pointer (some (a.add r)))
 | own (e b off n c:Nat) (hc:n≤c) (hs:(off+c) * e≤sz b):Rep rd sz (.own e b off n) (.slice (some ⟨b,off * e,none⟩) n c)
 | cown (e b n c:Nat) (hc:n≤c) (hs:c * e≤sz b):Rep rd sz (.cown e b n c) (.slice (some ⟨b,0,none⟩) n c)
 | optr (e b i r:Nat):Rep rd sz (.optr e b i r) (.pointer (some ⟨b,i * e+r,none⟩))
 | agg (cs:List AV) (vs:Array Value) (hl:cs.length=vs.size) (hg:∀ (j:Nat) (y:AV) (c:Value),cs[j]?=some y→vs[j]?=some c→Rep rd sz y c):Rep rd sz (.agg cs) (.agg vs)
 | fn (f:Fn) (fs cs:List AV) (gs ds:Array Value) (hl:fs.length=gs.size) (hl':cs.length=ds.size)
   (hg:∀ (j:Nat) (y:AV) (c:Value),fs[j]?=some y→gs[j]?=some c→Rep rd sz y c) (hd:∀ (j:Nat) (y:AV) (c:Value),cs[j]?=some y→ds[j]?=some c→Rep rd sz y c) :
   Rep rd sz (.fn f fs cs) (.func f gs ds)
 | iface (t:TypeId) (v:AV) (c:Value) (h:Rep rd sz v c):Rep rd sz (.iface t v) (.iface t c)
 | tuple (cs:List AV) (vs:Array Value) (hl:cs.length=vs.size) (hg:∀ (j:Nat) (y:AV) (c:Value),cs[j]?=some y→vs[j]?=some c→Rep rd sz y c):Rep rd sz (.tuple cs) (.tuple vs)
 | ubool (b:Bool):Rep rd sz .ubool (.bool b)
 | junk (c:Value):Rep rd sz .junk c
theorem Rep.mono {rd rd':Addr→Option Value} {sz sz':Nat→Nat} (h1:∀ a v,rd a=some v→rd' a=some v) (h2:∀ b,sz b≤sz' b) {v:AV} {c:Value}
  (h:Rep rd sz v c):Rep rd' sz' v c:=by
 induction h with
 | bool b=>exact .bool b
 | int k n=>exact .int k n
 | str s=>exact .str s
 | nilp=>exact .nilp
 | nilf=>exact .nilf
 | nili=>exact .nili
 | emp A=>exact .emp A
 | arr e n f A c g hc hA hl ho hr hg ih=>exact .arr e n f A c g hc hA hl ho (fun a ha i j hi hj=>h1 _ _ (hr a ha i j hi hj)) (fun i j y hi hy=>ih i j y hi hy)
 | fptr v r a g hr hg ih=>exact .fptr v r a g (fun j hj=>h1 _ _ (hr j hj)) (fun j y hy=>ih j y hy)
 | own e b off n c hc hs=>exact .own e b off n c hc (D7S hs (h2 b))
 | cown e b n c hc hs=>exact .cown e b n c hc (D7S hs (h2 b))
 | optr e b i r=>exact .optr e b i r
 | agg cs vs hl hg ih=>exact .agg cs vs hl (fun j y c hy hc=>ih j y c hy hc)
 | fn f fs cs gs ds hl hl' hg hd ih ih'=>exact .fn f fs cs gs ds hl hl' (fun j y c hy hc=>ih j y c hy hc) (fun j y c hy hc=>ih' j y c hy hc)
 | iface t v c h ih=>exact .iface t v c ih
 | tuple cs vs hl hg ih=>exact .tuple cs vs hl (fun j y c hy hc=>ih j y c hy hc)
 | ubool b=>exact .ubool b
 | junk c=>exact .junk c
theorem Rep.one {rd:Addr→Option Value} {sz:Nat→Nat} {v:AV} {c:Value} (h:Rep rd sz v c) (h1:v.one=true):c.oneCell'=true∧c.cells=#[c]∧cellsOf v=[v]:=by
 cases h<;>first | (simp [AV.one] at h1;done) | exact ⟨rfl,rfl,rfl⟩
structure K4 where
 ty:TypeId
 e:Nat
 n:Nat
 f:Nat→AV
abbrev St:=Nat→Option K4
def upd (st:St) (b:Nat) (x:K4):St:=fun c=>if c=b then some x else st c
def del (st:St) (b:Nat):St:=fun c=>if c=b then none else st c
def A3D (w:World) (st:St) (a:Addr):Option Value:=match st a.block with | none=>w.cell? a | some _=>none
def A1n (w:World) (b:Nat):Nat:=match w.heap[b]? with | some (.cells c _ _)=>c.size | _=>0
abbrev M0 (w:World) (st:St):AV→Value→Prop:=Rep (A3D w st) (A1n w)
structure A2p (w:World) (st:St) (b:Nat) (x:K4) (cs:Array Value):Prop where
 heap:w.heap[b]?=some (.cells cs x.ty (0,0))
 size:x.n * x.e≤cs.size
 len:∀ i,i<x.n→(cellsOf (x.f i)).length=x.e
 one:∀ i,i<x.n→(cellsOf (x.f i)).all AV.one=true
 cell:∀ (i j:Nat) (y:AV),i<x.n→(cellsOf (x.f i))[j]?=some y→∃ c,cs[i * x.e+j]?=some c∧M0 w st y c
def I3 (st:St) (w:World):Prop:=∀ b x,st b=some x→∃ cs,A2p w st b x cs
structure Evo (st:St) (w:World) (st':St) (w':World):Prop where
 os:w'.os=w.os
 tape:w'.tape=w.tape
 output:w'.output=w.output
 size:w.heap.size≤w'.heap.size
 blk:∀ b,b<w.heap.size→st b=none→w'.heap[b]?=w.heap[b]?∧st' b=none
 szm:∀ b,A1n w b≤A1n w' b
theorem Evo.refl (st:St) (w:World):Evo st w st w:=⟨rfl,rfl,rfl,D6M _,fun _ _ h=>⟨rfl,h⟩,fun _=>D6M _⟩
theorem Evo.trans {s0 s1 s2:St} {w0 w1 w2:World} (h:Evo s0 w0 s1 w1) (k:Evo s1 w1 s2 w2):Evo s0 w0 s2 w2 :=
 ⟨k.os.trans h.os,k.tape.trans h.tape,k.output.trans h.output,D7S h.size k.size,
 fun b hb hs=>by
  obtain ⟨h1,h2⟩:=h.blk b hb hs
  obtain ⟨k1,k2⟩:=k.blk b (Nat.lt_of_lt_of_le hb h.size) h2
  exact ⟨k1.trans h1,k2⟩,
 fun b=>D7S (h.szm b) (k.szm b)⟩
theorem B3a {w w':World} {a:Addr} (h:w'.heap[a.block]?=w.heap[a.block]?):w'.cell? a=w.cell? a:=by
 unfold World.cell?;rw [h]
theorem C3p {w:World} {a:Addr} {v:Value} (h:w.cell? a=some v):a.block<w.heap.size:=block_lt_of_cell h
theorem Evo.rd {st st':St} {w w':World} (h:Evo st w st' w') (a:Addr) (v:Value) (hr:A3D w st a=some v):A3D w' st' a=some v:=by
 unfold A3D at *
 cases hs:st a.block with
 | some x=>rw [hs] at hr;cases hr
 | none =>
  rw [hs] at hr
  obtain ⟨h1,h2⟩:=h.blk a.block (C3p hr) hs
  rw [h2]
  show w'.cell? a=some v
  rw [B3a h1];exact hr
theorem Evo.rep {st st':St} {w w':World} (h:Evo st w st' w') {v:AV} {c:Value} (hr:M0 w st v c):M0 w' st' v c:=hr.mono h.rd h.szm
structure P2 (w:World) (st:St) (A:List AV) (a:Act):Prop where
 len:A.length=a.tmps.size
 at_:∀ (i:Nat) (v:AV),A[i]?=some v→∃ c,a.tmps[i]?=some c∧M0 w st v c
 defers:a.defers=[]
theorem P2.evo {st st':St} {w w':World} {A:List AV} {a:Act} (h:P2 w st A a) (he:Evo st w st' w'):P2 w' st' A a :=
 ⟨h.len,fun i v hv=>by obtain ⟨c,h1,h2⟩:=h.at_ i v hv;exact ⟨c,h1,he.rep h2⟩,h.defers⟩
def K2 (A:List AV) (d:Option Tmp) (v:AV):List AV:=match d with | some i=>A.set i v | none=>A
theorem P2.put {st:St} {w:World} {A:List AV} {a:Act} (h:P2 w st A a) (d:Option Tmp) {v:AV} {c:Value} (hv:M0 w st v c):P2 w st (K2 A d v) (a.put d c):=by
 cases d with
 | none=>exact h
 | some i =>
  refine ⟨by simp [K2,Act.put,h.len],fun j u hu=>?_,h.defers⟩
  simp only [K2,D8G] at hu
  simp only [Act.put,Array.getElem?_setIfInBounds]
  by_cases hij:i=j
  ·subst hij
   rw [if_pos rfl] at hu
   split at hu
   ·rename_i hlt
    simp only [D8O] at hu
    subst hu
    have:i<a.tmps.size:=by rw [←h.len];exact hlt
    exact ⟨c,by simp [this],hv⟩
   ·cases hu
  ·rw [if_neg hij] at hu
   rw [if_neg hij]
   exact h.at_ j u hu
def C3i:Value→AV
 | .bool b=>.bool b
 | .int k n=>.int k n
 | .string s=>.str s
 | .pointer a=>match a with | none=>.nilp | some _=>.junk
 | .slice a l c=>match a with | none=>(match l,c with | 0,0=>.emp | _,_=>.junk) | some _=>.junk
 | .nilFunc=>.nilf
 | .nilIface=>.nili
 | .tuple vs=>match vs.toList with | []=>.tuple [] | _::_=>.junk
 | _=>.junk
def H7:Value→AV
 | .agg cs=>.agg (cs.toList.map C3i)
 | v=>C3i v
theorem B3u (rd:Addr→Option Value) (sz:Nat→Nat) (v:Value):Rep rd sz (C3i v) v:=by
 cases v with
 | bool b=>exact .bool _
 | int k n=>exact .int _ _
 | string s=>exact .str _
 | pointer a=>cases a with
  | none=>exact .nilp
  | some a=>exact .junk _
 | slice a l c=>cases a with
  | none=>cases l with
   | zero=>cases c with
    | zero=>exact .emp _
    | succ c=>exact .junk _
   | succ l=>exact .junk _
  | some a=>exact .junk _
 | nilFunc=>exact .nilf
 | nilIface=>exact .nili
 | tuple vs =>
  obtain ⟨l⟩:=vs
  cases l with
  | nil=>exact .tuple _ _ rfl (fun j y c h=>by simp at h)
  | cons x l=>exact .junk _
 | _=>exact .junk _
theorem B1f (rd:Addr→Option Value) (sz:Nat→Nat) (v:Value):Rep rd sz (H7 v) v:=by
 unfold H7
 split
 ·refine .agg _ _ (by simp) fun j y c hy hc=>?_
  simp only [D7C,D7t] at hy
  rw [hc] at hy
  simp only [D8K,D8O] at hy
  subst hy
  exact B3u rd sz c
 ·exact B3u rd sz v
def ev (A:List AV):Operand→AV
 | .tmp t=>A.getD t .junk
 | .const v=>H7 v
 | .global _=>.junk
 | .func f=>.fn (.func f) [] []
theorem H9 {w:World} {st:St} {A:List AV} {a:Act} (h:P2 w st A a) (x:Operand):M0 w st (ev A x) (a.eval x):=by
 cases x with
 | tmp t =>
  simp only [ev,Act.eval]
  rw [D6D,Array.getD_eq_getD_getElem?]
  cases hA:A[t]? with
  | none=>exact .junk _
  | some v =>
   obtain ⟨c,h1,h2⟩:=h.at_ t v hA
   rw [h1];exact h2
 | const v=>exact B1f _ _ v
 | global g=>exact .junk _
 | func f=>exact .fn _ _ _ _ _ rfl rfl (fun j y c h=>by simp at h) (fun j y c h=>by simp at h)
end Go.Ab
