/- Part 0 of the proof: contracts -/
import Derived.Tactics
import Derived.RowKit3
import Derived.ArgAppend
import Derived.Orders
import Derived.Laws.Rows
import Derived.Laws.Cells
import Derived.Below
namespace Go
abbrev D7c:=@List.getD_eq_getElem?_getD
abbrev D7d:=@decide_eq_true_eq
abbrev D7e:=@decide_eq_false_iff_not
abbrev D7f:=@Bool.and_eq_true
abbrev D7g:=@of_decide_eq_false
abbrev D7h:=@of_decide_eq_true
abbrev D7i:=@List.length_map
abbrev D7j:=@decide_eq_false
abbrev D7k:=@List.getElem?_eq_getElem
abbrev D7l:=@Nat.le_refl
abbrev D7m:=@List.take_length
abbrev D7n:=@List.length_take
abbrev D7o:=@Nat.zero_add
abbrev D7p:=@List.length_append
abbrev D7q:=@Int.toNat_natCast
abbrev D7r:=@List.getElem?_take_of_lt
abbrev D7s:=@List.all_eq_true
abbrev D7t:=@List.mem_range
abbrev D7u:=@Bool.true_and
abbrev D7v:=@Bool.not_eq_true'
abbrev D7w:=@List.getElem?_eq_some_iff
abbrev D7x:=@Array.getElem?_eq_getElem
abbrev D7y:=@List.mem_map
abbrev D7z:=@Bool.false_and
abbrev D7A:=@List.getElem?_append_right
abbrev D7B:=@List.getElem?_append_left
abbrev D7C:=@Nat.zero_le
abbrev D7D:=@decide_eq_true
abbrev D7E:=@List.mem_cons_of_mem
abbrev D7F:=@List.length_range
abbrev D7G:=@List.mem_cons_self
abbrev D7H:=@Bool.and_false
abbrev D7I:=@List.mem_singleton
abbrev D7J:=@Bool.not_eq_false'
abbrev D7K:=@Bool.not_false
abbrev D7L:=@Int.le_refl
abbrev D7M:=@List.map_append
abbrev D7N:=@List.length_cons
abbrev D7O:=@List.eq_nil_of_length_eq_zero
abbrev D7P:=@beq_eq_false_iff_ne
abbrev D7Q:=@Bool.and_true
abbrev D7R:=@Bool.false_or
abbrev D7S:=@Bool.not_true
abbrev D7T:=@Array.getElem?_toList
abbrev D7U:=@Bool.or_true
abbrev D7V:=@Bool.or_false
abbrev D7W:=@Int.mul_le_mul_of_nonneg_left
abbrev D7X:=@Bool.true_or
abbrev D7Y:=@Nat.lt_succ_iff_lt_or_eq
abbrev D7Z:=@beq_iff_eq
abbrev D8a:=@List.getElem?_map
abbrev D8b:=@Array.getElem?_eq_some_iff
abbrev D8c:=@Nat.mul_le_mul_right
abbrev D8d:=@List.mem_filter
abbrev D8e:=@List.take_subset
abbrev D8f:=@List.filter_cons_of_pos
abbrev D8g:=@Bool.or_eq_true
abbrev D8h:=@Bool.not_eq_true
abbrev D8i:=@List.length_replicate
abbrev D8j:=@Int.mul_ediv_add_emod
abbrev D8k:=@List.map_cons
abbrev D8l:=@List.filter_cons_of_neg
abbrev D8m:=@Option.bind_eq_some_iff
abbrev D8n:=@Bool.or_eq_false_iff
abbrev D8o:=@List.foldl_cons
abbrev D8p:=@List.length_set
abbrev D8q:=@List.any_eq_false
abbrev D8r:=@Nat.le_trans
abbrev D8s:=@List.mem_append
abbrev D8t:=@Int.emod_lt_of_pos
abbrev D8u:=@List.length_nil
abbrev D8v:=@Bool.not_not
abbrev D8w:=@Nat.eq_zero_or_pos
abbrev D8x:=@List.map_congr_left
abbrev D8y:=@List.getElem_mem
abbrev D8z:=@List.append_assoc
abbrev D8A:=@List.mem_cons
abbrev D8B:=@List.take_zero
abbrev D8C:=@List.getElem?_range
abbrev D8D:=@List.not_mem_nil
abbrev D8E:=@Nat.lt_or_ge
abbrev D8F:=@Int.emod_nonneg
abbrev D8G:=@List.range_succ
abbrev D8H:=@Int.mul_nonneg
abbrev D8I:=@List.pairwise_iff_getElem
abbrev D8J:=@List.getElem?_drop
abbrev D8K:=@List.pairwise_cons
abbrev D8L:=@Int.tdiv_eq_ediv_of_nonneg
abbrev D8M:=@Int.tmod_eq_emod_of_nonneg
abbrev D8N:=@List.any_eq_true
abbrev D8O:=@Bool.eq_false_iff
abbrev D8P:=@decide_eq_decide
abbrev D8Q:=@beq_false_of_ne
abbrev D8R:=@Int.ediv_nonneg
abbrev D8S:=@Int.toNat_of_nonneg
abbrev D8T:=@List.take_of_length_le
abbrev D8U:=@Int.ediv_lt_iff_lt_mul
abbrev D8V:=@List.getElem?_set_ne
abbrev D8W:=@List.getElem?_set
abbrev D8X:=@List.append_nil
abbrev D8Y:=@Bool.false_eq_true
abbrev D8Z:=@List.filter_append
abbrev D9a:=@Nat.eq_of_beq_eq_true
abbrev D9b:=@Int.mul_le_mul_of_nonneg_right
abbrev D9c:=@Int.fdiv_eq_ediv_of_nonneg
abbrev D9d:=@List.getElem_of_mem
abbrev D9e:=@congrArg
abbrev D9f:=@List.filter_sublist
abbrev D9g:=@List.foldl_append
abbrev D9h:=@List.drop_eq_getElem_cons
abbrev D9i:=@List.take_succ_eq_append_getElem
abbrev D9j:=@Option.map_some
abbrev D9k:=@Bool.and_eq_false_iff
abbrev D9l:=@Bool.coe_iff_coe
abbrev D9m:=@beq_self_eq_true
abbrev D9n:=@Option.some.injEq
abbrev D9o:=@Nat.add_mul
abbrev D9p:=@Int.mul_add
abbrev D9q:=@Int.mul_comm
abbrev D9r:=@List.take_append_drop
abbrev D9s:=@Int.add_zero
abbrev D9t:=@List.getElem?_replicate
abbrev D9u:=@List.pairwise_mergeSort
abbrev D9v:=@Nat.add_zero
abbrev D9w:=@List.cons_append
abbrev D9x:=@Array.getElem?_eq_none
abbrev D9y:=@Bool.not_eq_false
abbrev D9z:=@Int.mul_le_mul
abbrev D9A:=@List.mem_of_find?_eq_some
abbrev D9B:=@List.map_map
abbrev D9C:=@List.getElem?_eq_none
abbrev D9D:=@List.length_filter_le
abbrev D9E:=@List.singleton_append
abbrev D9F:=@bne_iff_ne
abbrev D9G:=@List.find?_eq_none
abbrev D9H:=@Int.add_mul
abbrev D9I:=@List.length_drop
abbrev D9J:=@Nat.lt_succ_self
abbrev D9K:=@List.ext_getElem
abbrev D9L:=@if_false
abbrev D9M:=@Nat.add_assoc
abbrev D9N:=@List.getElem?_cons_succ
abbrev D9O:=@Nat.blt_eq
abbrev D9P:=@List.drop_sublist
abbrev D9Q:=@List.mergeSort_perm
abbrev D9R:=@List.mem_map_of_mem
abbrev D9S:=@List.find?_cons_of_pos
abbrev D9T:=@List.find?_cons_of_neg
abbrev D9U:=@Array.getElem?_append_left
abbrev D9V:=@Array.getElem?_modify
abbrev D9W:=@Int.mul_assoc
abbrev D9X:=@Int.le_trans
abbrev D9Y:=@List.Pairwise.sublist
abbrev D9Z:=@Int.mul_one
abbrev E0a:=@List.mem_of_mem_take
abbrev E0b:=@List.getD_cons_zero
abbrev E0c:=@Nat.mod_eq_of_lt
abbrev E0d:=@Nat.eq_or_lt_of_le
abbrev E0e:=@List.map_nil
abbrev E0f:=@List.nil_append
abbrev E0g:=@Bool.eq_iff_iff
abbrev E0h:=@Int.le_of_lt
abbrev E0i:=@Int.zero_mul
abbrev E0j:=@Nat.min_eq_left
abbrev E0k:=@Bool.beq_comm
end Go
set_option linter.unusedVariables false
set_option linter.unusedSimpArgs false
namespace Go.Ab
open Go
inductive AV where
 | bool (b:Bool)
 | int (k:IntKind) (n:Int)
 | str (s:ByteArray)
 | nilp
 | nilf
 | nili
 | emp
 | arr (e n:Nat) (f:Nat→AV)
 | fptr (v:AV) (r:Nat)
 | own (e b off n:Nat)
 | cown (e b n c:Nat)
 | optr (e b i r:Nat)
 | agg (cs:List AV)
 | fn (f:Fn) (first captured:List AV)
 | iface (t:TypeId) (v:AV)
 | tuple (vs:List AV)
 | ubool
 | junk
instance:Inhabited AV:=⟨.junk⟩
def AV.one:AV→Bool
 | .agg _=>false
 | .tuple _=>false
 | .junk=>false
 | _=>true
def cellsOf:AV→List AV
 | .agg cs=>cs
 | .tuple _=>[]
 | .junk=>[]
 | v=>[v]
inductive Rep (rd:Addr→Option Value) (sz:Nat→Nat):AV→Value→Prop
 | bool (b:Bool):Rep rd sz (.bool b) (.bool b)
 | int (k:IntKind) (n:Int):Rep rd sz (.int k n) (.int k n)
 | str (s:ByteArray):Rep rd sz (.str s) (.string s)
 | nilp:Rep rd sz .nilp (.pointer none)
 | nilf:Rep rd sz .nilf .nilFunc
 | nili:Rep rd sz .nili .nilIface
 | emp (A:Option Addr):Rep rd sz .emp (.slice A 0 0)
 | arr (e n:Nat) (f:Nat→AV) (A:Option Addr) (c:Nat) (g:Nat→Nat→Value) (hc:n≤c) (hA:0<n→∃ a,A=some a)
   (hl:∀ i,i<n→(cellsOf (f i)).length=e) (ho:∀ i,i<n→(cellsOf (f i)).all AV.one=true)
   (hr:∀ a,A=some a→∀ i j,i<n→j<e→rd (a.add (i * e+j))=some (g i j))
   (hg:∀ (i j:Nat) (y:AV),i<n→(cellsOf (f i))[j]?=some y→Rep rd sz y (g i j)):Rep rd sz (.arr e n f) (.slice A n c)
 | fptr (v:AV) (r:Nat) (a:Addr) (g:Nat→Value)
   (hr:∀ j,j<(cellsOf v).length→rd (a.add j)=some (g j))
   (hg:∀ (j:Nat) (y:AV),(cellsOf v)[j]?=some y→Rep rd sz y (g j)):Rep rd sz (.fptr v r) (.pointer (some (a.add r)))
 | own (e b off n c:Nat) (hc:n≤c) (hs:(off+c) * e≤sz b):Rep rd sz (.own e b off n) (.slice (some ⟨b,off * e,none⟩) n c)
 | cown (e b n c:Nat) (hc:n≤c) (hs:c * e≤sz b):Rep rd sz (.cown e b n c) (.slice (some ⟨b,0,none⟩) n c)
 | optr (e b i r:Nat):Rep rd sz (.optr e b i r) (.pointer (some ⟨b,i * e+r,none⟩))
 | agg (cs:List AV) (vs:Array Value) (hl:cs.length=vs.size) (hg:∀ (j:Nat) (y:AV) (c:Value),cs[j]?=some y→vs[j]?=some c→Rep rd sz y c):Rep rd sz (.agg cs) (.agg vs)
 | fn (f:Fn) (fs cs:List AV) (gs ds:Array Value) (hl:fs.length=gs.size) (hl':cs.length=ds.size)
   (hg:∀ (j:Nat) (y:AV) (c:Value),fs[j]?=some y→gs[j]?=some c→Rep rd sz y c) (hd:∀ (j:Nat) (y:AV) (c:Value),cs[j]?=some y→ds[j]?=some c→Rep rd sz y c) :
   Rep rd sz (.fn f fs cs) (.func f gs ds)
 | iface (t:TypeId) (v:AV) (c:Value) (h:Rep rd sz v c):Rep rd sz (.iface t v) (.iface t c)
 | tuple (cs:List AV) (vs:Array Value) (hl:cs.length=vs.size) (hg:∀ (j:Nat) (y:AV) (c:Value),cs[j]?=some y→vs[j]?=some c→Rep rd sz y c):Rep rd sz (.tuple cs) (.tuple vs)
 | ubool (b:Bool):Rep rd sz .ubool (.bool b)
 | junk (c:Value):Rep rd sz .junk c
theorem Rep.mono {rd rd':Addr→Option Value} {sz sz':Nat→Nat} (h1:∀ a v,rd a=some v→rd' a=some v) (h2:∀ b,sz b≤sz' b) {v:AV} {c:Value}
  (h:Rep rd sz v c):Rep rd' sz' v c:=by
 induction h with
 | bool b=>exact .bool b
 | int k n=>exact .int k n
 | str s=>exact .str s
 | nilp=>exact .nilp
 | nilf=>exact .nilf
 | nili=>exact .nili
 | emp A=>exact .emp A
 | arr e n f A c g hc hA hl ho hr hg ih=>exact .arr e n f A c g hc hA hl ho (fun a ha i j hi hj=>h1 _ _ (hr a ha i j hi hj)) (fun i j y hi hy=>ih i j y hi hy)
 | fptr v r a g hr hg ih=>exact .fptr v r a g (fun j hj=>h1 _ _ (hr j hj)) (fun j y hy=>ih j y hy)
 | own e b off n c hc hs=>exact .own e b off n c hc (D8r hs (h2 b))
 | cown e b n c hc hs=>exact .cown e b n c hc (D8r hs (h2 b))
 | optr e b i r=>exact .optr e b i r
 | agg cs vs hl hg ih=>exact .agg cs vs hl (fun j y c hy hc=>ih j y c hy hc)
 | fn f fs cs gs ds hl hl' hg hd ih ih'=>exact .fn f fs cs gs ds hl hl' (fun j y c hy hc=>ih j y c hy hc) (fun j y c hy hc=>ih' j y c hy hc)
 | iface t v c h ih=>exact .iface t v c ih
 | tuple cs vs hl hg ih=>exact .tuple cs vs hl (fun j y c hy hc=>ih j y c hy hc)
 | ubool b=>exact .ubool b
 | junk c=>exact .junk c
theorem Rep.one {rd:Addr→Option Value} {sz:Nat→Nat} {v:AV} {c:Value} (h:Rep rd sz v c) (h1:v.one=true):c.oneCell'=true∧c.cells=#[c]∧cellsOf v=[v]:=by
 cases h<;>first | (simp [AV.one] at h1;done) | exact ⟨rfl,rfl,rfl⟩
structure L7 where
 ty:TypeId
 e:Nat
 n:Nat
 f:Nat→AV
abbrev St:=Nat→Option L7
def upd (st:St) (b:Nat) (x:L7):St:=fun c=>if c=b then some x else st c
def del (st:St) (b:Nat):St:=fun c=>if c=b then none else st c
def A3N (w:World) (st:St) (a:Addr):Option Value:=match st a.block with | none=>w.cell? a | some _=>none
def A1F (w:World) (b:Nat):Nat:=match w.heap[b]? with | some (.cells c _ _)=>c.size | _=>0
abbrev K8 (w:World) (st:St):AV→Value→Prop:=Rep (A3N w st) (A1F w)
structure A2G (w:World) (st:St) (b:Nat) (x:L7) (cs:Array Value):Prop where
 heap:w.heap[b]?=some (.cells cs x.ty (0,0))
 size:x.n * x.e≤cs.size
 len:∀ i,i<x.n→(cellsOf (x.f i)).length=x.e
 one:∀ i,i<x.n→(cellsOf (x.f i)).all AV.one=true
 cell:∀ (i j:Nat) (y:AV),i<x.n→(cellsOf (x.f i))[j]?=some y→∃ c,cs[i * x.e+j]?=some c∧K8 w st y c
def H9 (st:St) (w:World):Prop:=∀ b x,st b=some x→∃ cs,A2G w st b x cs
structure Evo (st:St) (w:World) (st':St) (w':World):Prop where
 os:w'.os=w.os
 tape:w'.tape=w.tape
 output:w'.output=w.output
 size:w.heap.size≤w'.heap.size
 blk:∀ b,b<w.heap.size→st b=none→w'.heap[b]?=w.heap[b]?∧st' b=none
 szm:∀ b,A1F w b≤A1F w' b
theorem Evo.refl (st:St) (w:World):Evo st w st w:=⟨rfl,rfl,rfl,D7l _,fun _ _ h=>⟨rfl,h⟩,fun _=>D7l _⟩
theorem Evo.trans {s0 s1 s2:St} {w0 w1 w2:World} (h:Evo s0 w0 s1 w1) (k:Evo s1 w1 s2 w2):Evo s0 w0 s2 w2 :=
 ⟨k.os.trans h.os,k.tape.trans h.tape,k.output.trans h.output,D8r h.size k.size,
 fun b hb hs=>by
  obtain ⟨h1,h2⟩:=h.blk b hb hs
  obtain ⟨k1,k2⟩:=k.blk b (Nat.lt_of_lt_of_le hb h.size) h2
  exact ⟨k1.trans h1,k2⟩,
 fun b=>D8r (h.szm b) (k.szm b)⟩
theorem B3w {w w':World} {a:Addr} (h:w'.heap[a.block]?=w.heap[a.block]?):w'.cell? a=w.cell? a:=by
 unfold World.cell?;rw [h]
theorem C3N {w:World} {a:Addr} {v:Value} (h:w.cell? a=some v):a.block<w.heap.size:=block_lt_of_cell h
theorem Evo.rd {st st':St} {w w':World} (h:Evo st w st' w') (a:Addr) (v:Value) (hr:A3N w st a=some v):A3N w' st' a=some v:=by
 unfold A3N at *
 cases hs:st a.block with
 | some x=>rw [hs] at hr;cases hr
 | none =>
  rw [hs] at hr
  obtain ⟨h1,h2⟩:=h.blk a.block (C3N hr) hs
  rw [h2]
  show w'.cell? a=some v
  rw [B3w h1];exact hr
theorem Evo.rep {st st':St} {w w':World} (h:Evo st w st' w') {v:AV} {c:Value} (hr:K8 w st v c):K8 w' st' v c:=hr.mono h.rd h.szm
structure Q0 (w:World) (st:St) (A:List AV) (a:Act):Prop where
 len:A.length=a.tmps.size
 at_:∀ (i:Nat) (v:AV),A[i]?=some v→∃ c,a.tmps[i]?=some c∧K8 w st v c
 defers:a.defers=[]
theorem Q0.evo {st st':St} {w w':World} {A:List AV} {a:Act} (h:Q0 w st A a) (he:Evo st w st' w'):Q0 w' st' A a :=
 ⟨h.len,fun i v hv=>by obtain ⟨c,h1,h2⟩:=h.at_ i v hv;exact ⟨c,h1,he.rep h2⟩,h.defers⟩
def K3 (A:List AV) (d:Option Tmp) (v:AV):List AV:=match d with | some i=>A.set i v | none=>A
theorem Q0.put {st:St} {w:World} {A:List AV} {a:Act} (h:Q0 w st A a) (d:Option Tmp) {v:AV} {c:Value} (hv:K8 w st v c):Q0 w st (K3 A d v) (a.put d c):=by
 cases d with
 | none=>exact h
 | some i =>
  refine ⟨by simp [K3,Act.put,h.len],fun j u hu=>?_,h.defers⟩
  simp only [K3,D8W] at hu
  simp only [Act.put,Array.getElem?_setIfInBounds]
  by_cases hij:i=j
  ·subst hij
   rw [if_pos rfl] at hu
   split at hu
   ·rename_i hlt
    simp only [D9n] at hu
    subst hu
    have:i<a.tmps.size:=by rw [←h.len];exact hlt
    exact ⟨c,by simp [this],hv⟩
   ·cases hu
  ·rw [if_neg hij] at hu
   rw [if_neg hij]
   exact h.at_ j u hu
def C3G:Value→AV
 | .bool b=>.bool b
 | .int k n=>.int k n
 | .string s=>.str s
 | .pointer a=>match a with | none=>.nilp | some _=>.junk
 | .slice a l c=>match a with | none=>(match l,c with | 0,0=>.emp | _,_=>.junk) | some _=>.junk
 | .nilFunc=>.nilf
 | .nilIface=>.nili
 | .tuple vs=>match vs.toList with | []=>.tuple [] | _::_=>.junk
 | _=>.junk
def I1:Value→AV
 | .agg cs=>.agg (cs.toList.map C3G)
 | v=>C3G v
theorem B3Q (rd:Addr→Option Value) (sz:Nat→Nat) (v:Value):Rep rd sz (C3G v) v:=by
 cases v with
 | bool b=>exact .bool _
 | int k n=>exact .int _ _
 | string s=>exact .str _
 | pointer a=>cases a with
  | none=>exact .nilp
  | some a=>exact .junk _
 | slice a l c=>cases a with
  | none=>cases l with
   | zero=>cases c with
    | zero=>exact .emp _
    | succ c=>exact .junk _
   | succ l=>exact .junk _
  | some a=>exact .junk _
 | nilFunc=>exact .nilf
 | nilIface=>exact .nili
 | tuple vs =>
  obtain ⟨l⟩:=vs
  cases l with
  | nil=>exact .tuple _ _ rfl (fun j y c h=>by simp at h)
  | cons x l=>exact .junk _
 | _=>exact .junk _
theorem B1y (rd:Addr→Option Value) (sz:Nat→Nat) (v:Value):Rep rd sz (I1 v) v:=by
 unfold I1
 split
 ·refine .agg _ _ (by simp) fun j y c hy hc=>?_
  simp only [D8a,D7T] at hy
  rw [hc] at hy
  simp only [D9j,D9n] at hy
  subst hy
  exact B3Q rd sz c
 ·exact B3Q rd sz v
def ev (A:List AV):Operand→AV
 | .tmp t=>A.getD t .junk
 | .const v=>I1 v
 | .global _=>.junk
 | .func f=>.fn (.func f) [] []
theorem I2 {w:World} {st:St} {A:List AV} {a:Act} (h:Q0 w st A a) (x:Operand):K8 w st (ev A x) (a.eval x):=by
 cases x with
 | tmp t =>
  simp only [ev,Act.eval]
  rw [D7c,Array.getD_eq_getD_getElem?]
  cases hA:A[t]? with
  | none=>exact .junk _
  | some v =>
   obtain ⟨c,h1,h2⟩:=h.at_ t v hA
   rw [h1];exact h2
 | const v=>exact B1y _ _ v
 | global g=>exact .junk _
 | func f=>exact .fn _ _ _ _ _ rfl rfl (fun j y c h=>by simp at h) (fun j y c h=>by simp at h)
end Go.Ab
