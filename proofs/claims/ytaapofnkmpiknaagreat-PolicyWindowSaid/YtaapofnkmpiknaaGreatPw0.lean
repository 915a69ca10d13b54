/- Part 0 of the proof: contracts of the functions that the law reaches -/
import Derived.Tactics
import Derived.RowKit3
import Derived.ArgAppend
import Derived.Orders
import Derived.Laws.Rows
import Derived.Laws.Cells
import Derived.Below
namespace Go
abbrev C9i:=@List.getD_eq_getElem?_getD
abbrev C9j:=@of_decide_eq_true
abbrev C9k:=@of_decide_eq_false
abbrev C9l:=@Bool.and_eq_true
abbrev C9m:=@decide_eq_false_iff_not
abbrev C9n:=@decide_eq_true_eq
abbrev C9o:=@List.length_map
abbrev C9p:=@List.getElem?_eq_getElem
abbrev C9q:=@Nat.le_refl
abbrev C9r:=@Array.getElem?_eq_getElem
abbrev C9s:=@decide_eq_false
abbrev C9t:=@List.getElem?_eq_some_iff
abbrev C9u:=@List.take_length
abbrev C9v:=@Nat.zero_le
abbrev C9w:=@List.getElem?_take_of_lt
abbrev C9x:=@List.mem_cons_of_mem
abbrev C9y:=@Nat.zero_add
abbrev C9z:=@List.getElem?_append_left
abbrev C9A:=@Bool.false_and
abbrev C9B:=@List.getElem?_append_right
abbrev C9C:=@List.mem_cons_self
abbrev C9D:=@List.length_take
abbrev C9E:=@List.length_append
abbrev C9F:=@Bool.not_eq_true'
abbrev C9G:=@List.length_cons
abbrev C9H:=@List.mem_map
abbrev C9I:=@Bool.and_false
abbrev C9J:=@Array.getElem?_toList
abbrev C9K:=@Bool.true_and
abbrev C9L:=@Int.fdiv_eq_ediv_of_nonneg
abbrev C9M:=@List.eq_nil_of_length_eq_zero
abbrev C9N:=@Int.mul_le_mul_of_nonneg_left
abbrev C9O:=@List.all_eq_true
abbrev C9P:=@List.map_append
abbrev C9Q:=@Int.toNat_natCast
abbrev C9R:=@Int.le_refl
abbrev C9S:=@List.mem_range
abbrev C9T:=@Nat.lt_succ_iff_lt_or_eq
abbrev C9U:=@Array.getElem?_eq_some_iff
abbrev C9V:=@Bool.not_false
abbrev C9W:=@beq_eq_false_iff_ne
abbrev C9X:=@Bool.or_false
abbrev C9Y:=@Bool.not_true
abbrev C9Z:=@List.mem_singleton
abbrev D0a:=@Bool.false_or
abbrev D0b:=@Int.mul_ediv_add_emod
abbrev D0c:=@Int.emod_lt_of_pos
abbrev D0d:=@Bool.or_true
abbrev D0e:=@Nat.mul_le_mul_right
abbrev D0f:=@Bool.true_or
abbrev D0g:=@Option.bind_eq_some_iff
abbrev D0h:=@List.length_range
abbrev D0i:=@List.length_replicate
abbrev D0j:=@List.map_cons
abbrev D0k:=@Int.emod_nonneg
abbrev D0l:=@Nat.le_trans
abbrev D0m:=@List.take_subset
abbrev D0n:=@Bool.and_true
abbrev D0o:=@List.filter_cons_of_pos
abbrev D0p:=@List.length_set
abbrev D0q:=@Bool.not_eq_false'
abbrev D0r:=@decide_eq_true
abbrev D0s:=@Int.ediv_lt_iff_lt_mul
abbrev D0t:=@List.getElem_mem
abbrev D0u:=@Int.tdiv_eq_ediv_of_nonneg
abbrev D0v:=@Int.ediv_nonneg
abbrev D0w:=@List.filter_cons_of_neg
abbrev D0x:=@Int.mul_nonneg
abbrev D0y:=@List.getElem?_map
abbrev D0z:=@Bool.not_eq_true
abbrev D0A:=@Bool.or_eq_true
abbrev D0B:=@List.length_nil
abbrev D0C:=@List.mem_filter
abbrev D0D:=@Nat.lt_or_ge
abbrev D0E:=@List.foldl_cons
abbrev D0F:=@List.pairwise_cons
abbrev D0G:=@Bool.not_not
abbrev D0H:=@List.getElem?_set_ne
abbrev D0I:=@List.getElem?_drop
abbrev D0J:=@Bool.false_eq_true
abbrev D0K:=@Nat.eq_zero_or_pos
abbrev D0L:=@Int.mul_le_mul_of_nonneg_right
abbrev D0M:=@List.mem_cons
abbrev D0N:=@Int.toNat_of_nonneg
abbrev D0O:=@List.getElem?_set
abbrev D0P:=@List.append_assoc
abbrev D0Q:=@beq_iff_eq
abbrev D0R:=@Bool.eq_false_iff
abbrev D0S:=@Bool.or_eq_false_iff
abbrev D0T:=@List.take_succ_eq_append_getElem
abbrev D0U:=@Option.map_some
abbrev D0V:=@List.mem_append
abbrev D0W:=@Int.le_of_lt
abbrev D0X:=@List.filter_sublist
abbrev D0Y:=@Option.some.injEq
abbrev D0Z:=@Nat.add_mul
abbrev D1a:=@List.drop_eq_getElem_cons
abbrev D1b:=@List.not_mem_nil
abbrev D1c:=@List.getElem?_range
abbrev D1d:=@List.map_congr_left
abbrev D1e:=@Int.mul_add
abbrev D1f:=@Int.mul_comm
abbrev D1g:=@List.filter_append
abbrev D1h:=@List.cons_append
abbrev D1i:=@Int.tmod_eq_emod_of_nonneg
abbrev D1j:=@congrArg
abbrev D1k:=@Array.getElem?_eq_none
abbrev D1l:=@List.take_append_drop
abbrev D1m:=@List.range_succ
abbrev D1n:=@List.singleton_append
abbrev D1o:=@List.pairwise_mergeSort
abbrev D1p:=@Nat.add_zero
abbrev D1q:=@List.take_zero
abbrev D1r:=@Bool.not_eq_false
abbrev D1s:=@Nat.blt_eq
abbrev D1t:=@Int.add_mul
abbrev D1u:=@List.mergeSort_perm
abbrev D1v:=@Array.getElem?_append_left
abbrev D1w:=@Array.getElem?_modify
abbrev D1x:=@if_false
abbrev D1y:=@Nat.eq_of_beq_eq_true
abbrev D1z:=@Int.mul_assoc
abbrev D1A:=@List.getElem?_eq_none
abbrev D1B:=@List.length_filter_le
abbrev D1C:=@Int.add_zero
abbrev D1D:=@List.Pairwise.sublist
abbrev D1E:=@List.mem_of_find?_eq_some
abbrev D1F:=@List.pairwise_iff_getElem
abbrev D1G:=@List.drop_sublist
abbrev D1H:=@Nat.add_assoc
abbrev D1I:=@List.getElem?_replicate
abbrev D1J:=@List.getD_cons_zero
abbrev D1K:=@Int.mul_one
abbrev D1L:=@List.getElem?_cons_succ
abbrev D1M:=@List.length_drop
abbrev D1N:=@List.find?_eq_none
abbrev D1O:=@List.map_nil
abbrev D1P:=@List.nil_append
abbrev D1Q:=@Bool.and_eq_false_iff
abbrev D1R:=@List.append_nil
abbrev D1S:=@bne_iff_ne
abbrev D1T:=@List.mem_of_mem_take
abbrev D1U:=@Int.mul_le_mul
abbrev D1V:=@Nat.mod_eq_of_lt
abbrev D1W:=@List.getElem_of_mem
abbrev D1X:=@List.mem_map_of_mem
abbrev D1Y:=@List.foldl_append
abbrev D1Z:=@Nat.lt_succ_self
abbrev D2a:=@beq_self_eq_true
abbrev D2b:=@Nat.min_eq_left
abbrev D2c:=@List.map_map
abbrev D2d:=@List.any_eq_false
abbrev D2e:=@List.any_eq_true
abbrev D2f:=@List.ext_getElem
abbrev D2g:=@List.take_of_length_le
abbrev D2h:=@List.find?_cons_of_pos
abbrev D2i:=@List.find?_cons_of_neg
abbrev D2j:=@Bool.eq_iff_iff
end Go
set_option linter.unusedVariables false
set_option linter.unusedSimpArgs false
namespace Go.Ab
open Go
inductive AV where
 | bool (b:Bool)
 | int (k:IntKind) (n:Int)
 | str (s:ByteArray)
 | nilp
 | nilf
 | nili
 | emp
 | arr (e n:Nat) (f:Nat→AV)
 | fptr (v:AV) (r:Nat)
 | own (e b off n:Nat)
 | cown (e b n c:Nat)
 | optr (e b i r:Nat)
 | agg (cs:List AV)
 | fn (f:Fn) (first captured:List AV)
 | iface (t:TypeId) (v:AV)
 | tuple (vs:List AV)
 | ubool
 | junk
instance:Inhabited AV:=⟨.junk⟩
def AV.one:AV→Bool
 | .agg _=>false
 | .tuple _=>false
 | .junk=>false
 | _=>true
def A2:AV→List AV
 | .agg cs=>cs
 | .tuple _=>[]
 | .junk=>[]
 | v=>[v]
inductive Rep (rd:Addr→Option Value) (sz:Nat→Nat):AV→Value→Prop
 | bool (b:Bool):Rep rd sz (.bool b) (.bool b)
 | int (k:IntKind) (n:Int):Rep rd sz (.int k n) (.int k n)
 | str (s:ByteArray):Rep rd sz (.str s) (.string s)
 | nilp:Rep rd sz .nilp (.pointer none)
 | nilf:Rep rd sz .nilf .nilFunc
 | nili:Rep rd sz .nili .nilIface
 | emp (A:Option Addr):Rep rd sz .emp (.slice A 0 0)
 | arr (e n:Nat) (f:Nat→AV) (A:Option Addr) (c:Nat) (g:Nat→Nat→Value) (hc:n≤c) (hA:0<n→∃ a,A=some a)
   (hl:∀ i,i<n→(A2 (f i)).length=e) (ho:∀ i,i<n→(A2 (f i)).all AV.one=true)
   (hr:∀ a,A=some a→∀ i j,i<n→j<e→rd (a.add (i * e+j))=some (g i j))
   (hg:∀ (i j:Nat) (y:AV),i<n→(A2 (f i))[j]?=some y→Rep rd sz y (g i j)):Rep rd sz (.arr e n f) (.slice A n c)
 | fptr (v:AV) (r:Nat) (a:Addr) (g:Nat→Value)
   (hr:∀ j,j<(A2 v).length→rd (a.add j)=some (g j))
   (hg:∀ (j:Nat) (y:AV),(A2 v)[j]?=some y→Rep rd sz y (g j)):Rep rd sz (.fptr v r) (.pointer (some (a.add r)))
 | own (e b off n c:Nat) (hc:n≤c) (hs:(off+c) * e≤sz b):Rep rd sz (.own e b off n) (.slice (some ⟨b,off * e,none⟩) n c)
 | cown (e b n c:Nat) (hc:n≤c) (hs:c * e≤sz b):Rep rd sz (.cown e b n c) (.slice (some ⟨b,0,none⟩) n c)
 | optr (e b i r:Nat):Rep rd sz (.optr e b i r) (.pointer (some ⟨b,i * e+r,none⟩))
 | agg (cs:List AV) (vs:Array Value) (hl:cs.length=vs.size) (hg:∀ (j:Nat) (y:AV) (c:Value),cs[j]?=some y→vs[j]?=some c→Rep rd sz y c):Rep rd sz (.agg cs) (.agg vs)
 | fn (f:Fn) (fs cs:List AV) (gs ds:Array Value) (hl:fs.length=gs.size) (hl':cs.length=ds.size)
   (hg:∀ (j:Nat) (y:AV) (c:Value),fs[j]?=some y→gs[j]?=some c→Rep rd sz y c) (hd:∀ (j:Nat) (y:AV) (c:Value),cs[j]?=some y→ds[j]?=some c→Rep rd sz y c) :
   Rep rd sz (.fn f fs cs) (.func f gs ds)
 | iface (t:TypeId) (v:AV) (c:Value) (h:Rep rd sz v c):Rep rd sz (.iface t v) (.iface t c)
 | tuple (cs:List AV) (vs:Array Value) (hl:cs.length=vs.size) (hg:∀ (j:Nat) (y:AV) (c:Value),cs[j]?=some y→vs[j]?=some c→Rep rd sz y c):Rep rd sz (.tuple cs) (.tuple vs)
 | ubool (b:Bool):Rep rd sz .ubool (.bool b)
 | junk (c:Value):Rep rd sz .junk c
theorem Rep.mono {rd rd':Addr→Option Value} {sz sz':Nat→Nat} (h1:∀ a v,rd a=some v→rd' a=some v) (h2:∀ b,sz b≤sz' b) {v:AV} {c:Value}
  (h:Rep rd sz v c):Rep rd' sz' v c:=by
 induction h with
 | bool b=>exact .bool b
 | int k n=>exact .int k n
 | str s=>exact .str s
 | nilp=>exact .nilp
 | nilf=>exact .nilf
 | nili=>exact .nili
 | emp A=>exact .emp A
 | arr e n f A c g hc hA hl ho hr hg ih=>exact .arr e n f A c g hc hA hl ho (fun a ha i j hi hj=>h1 _ _ (hr a ha i j hi hj)) (fun i j y hi hy=>ih i j y hi hy)
 | fptr v r a g hr hg ih=>exact .fptr v r a g (fun j hj=>h1 _ _ (hr j hj)) (fun j y hy=>ih j y hy)
 | own e b off n c hc hs=>exact .own e b off n c hc (D0l hs (h2 b))
 | cown e b n c hc hs=>exact .cown e b n c hc (D0l hs (h2 b))
 | optr e b i r=>exact .optr e b i r
 | agg cs vs hl hg ih=>exact .agg cs vs hl (fun j y c hy hc=>ih j y c hy hc)
 | fn f fs cs gs ds hl hl' hg hd ih ih'=>exact .fn f fs cs gs ds hl hl' (fun j y c hy hc=>ih j y c hy hc) (fun j y c hy hc=>ih' j y c hy hc)
 | iface t v c h ih=>exact .iface t v c ih
 | tuple cs vs hl hg ih=>exact .tuple cs vs hl (fun j y c hy hc=>ih j y c hy hc)
 | ubool b=>exact .ubool b
 | junk c=>exact .junk c
theorem Rep.one {rd:Addr→Option Value} {sz:Nat→Nat} {v:AV} {c:Value} (h:Rep rd sz v c) (h1:v.one=true):c.oneCell'=true∧c.cells=#[c]∧A2 v=[v]:=by
 cases h<;>first | (simp [AV.one] at h1;done) | exact ⟨rfl,rfl,rfl⟩
structure H1 where
 ty:TypeId
 e:Nat
 n:Nat
 f:Nat→AV
abbrev St:=Nat→Option H1
def upd (st:St) (b:Nat) (x:H1):St:=fun c=>if c=b then some x else st c
def del (st:St) (b:Nat):St:=fun c=>if c=b then none else st c
def A0y (w:World) (st:St) (a:Addr):Option Value:=match st a.block with | none=>w.cell? a | some _=>none
def S8 (w:World) (b:Nat):Nat:=match w.heap[b]? with | some (.cells c _ _)=>c.size | _=>0
abbrev G5 (w:World) (st:St):AV→Value→Prop:=Rep (A0y w st) (S8 w)
structure W7 (w:World) (st:St) (b:Nat) (x:H1) (cs:Array Value):Prop where
 heap:w.heap[b]?=some (.cells cs x.ty (0,0))
 size:x.n * x.e≤cs.size
 len:∀ i,i<x.n→(A2 (x.f i)).length=x.e
 one:∀ i,i<x.n→(A2 (x.f i)).all AV.one=true
 cell:∀ (i j:Nat) (y:AV),i<x.n→(A2 (x.f i))[j]?=some y→∃ c,cs[i * x.e+j]?=some c∧G5 w st y c
def E0 (st:St) (w:World):Prop:=∀ b x,st b=some x→∃ cs,W7 w st b x cs
structure P6 (st:St) (w:World) (st':St) (w':World):Prop where
 os:w'.os=w.os
 tape:w'.tape=w.tape
 output:w'.output=w.output
 size:w.heap.size≤w'.heap.size
 blk:∀ b,b<w.heap.size→st b=none→w'.heap[b]?=w.heap[b]?∧st' b=none
 szm:∀ b,S8 w b≤S8 w' b
theorem P6.refl (st:St) (w:World):P6 st w st w:=⟨rfl,rfl,rfl,C9q _,fun _ _ h=>⟨rfl,h⟩,fun _=>C9q _⟩
theorem P6.trans {s0 s1 s2:St} {w0 w1 w2:World} (h:P6 s0 w0 s1 w1) (k:P6 s1 w1 s2 w2):P6 s0 w0 s2 w2 :=
 ⟨k.os.trans h.os,k.tape.trans h.tape,k.output.trans h.output,D0l h.size k.size,
 fun b hb hs=>by
  obtain ⟨h1,h2⟩:=h.blk b hb hs
  obtain ⟨k1,k2⟩:=k.blk b (Nat.lt_of_lt_of_le hb h.size) h2
  exact ⟨k1.trans h1,k2⟩,
 fun b=>D0l (h.szm b) (k.szm b)⟩
theorem A8j {w w':World} {a:Addr} (h:w'.heap[a.block]?=w.heap[a.block]?):w'.cell? a=w.cell? a:=by
 unfold World.cell?;rw [h]
theorem B6O {w:World} {a:Addr} {v:Value} (h:w.cell? a=some v):a.block<w.heap.size:=block_lt_of_cell h
theorem P6.rd {st st':St} {w w':World} (h:P6 st w st' w') (a:Addr) (v:Value) (hr:A0y w st a=some v):A0y w' st' a=some v:=by
 unfold A0y at *
 cases hs:st a.block with
 | some x=>rw [hs] at hr;cases hr
 | none =>
  rw [hs] at hr
  obtain ⟨h1,h2⟩:=h.blk a.block (B6O hr) hs
  rw [h2]
  show w'.cell? a=some v
  rw [A8j h1];exact hr
theorem P6.rep {st st':St} {w w':World} (h:P6 st w st' w') {v:AV} {c:Value} (hr:G5 w st v c):G5 w' st' v c:=hr.mono h.rd h.szm
structure H6 (w:World) (st:St) (A:List AV) (a:Act):Prop where
 len:A.length=a.tmps.size
 at_:∀ (i:Nat) (v:AV),A[i]?=some v→∃ c,a.tmps[i]?=some c∧G5 w st v c
 defers:a.defers=[]
theorem H6.evo {st st':St} {w w':World} {A:List AV} {a:Act} (h:H6 w st A a) (he:P6 st w st' w'):H6 w' st' A a :=
 ⟨h.len,fun i v hv=>by obtain ⟨c,h1,h2⟩:=h.at_ i v hv;exact ⟨c,h1,he.rep h2⟩,h.defers⟩
def F3 (A:List AV) (d:Option Tmp) (v:AV):List AV:=match d with | some i=>A.set i v | none=>A
theorem H6.put {st:St} {w:World} {A:List AV} {a:Act} (h:H6 w st A a) (d:Option Tmp) {v:AV} {c:Value} (hv:G5 w st v c):H6 w st (F3 A d v) (a.put d c):=by
 cases d with
 | none=>exact h
 | some i =>
  refine ⟨by simp [F3,Act.put,h.len],fun j u hu=>?_,h.defers⟩
  simp only [F3,D0O] at hu
  simp only [Act.put,Array.getElem?_setIfInBounds]
  by_cases hij:i=j
  ·subst hij
   rw [if_pos rfl] at hu
   split at hu
   ·rename_i hlt
    simp only [D0Y] at hu
    subst hu
    have:i<a.tmps.size:=by rw [←h.len];exact hlt
    exact ⟨c,by simp [this],hv⟩
   ·cases hu
  ·rw [if_neg hij] at hu
   rw [if_neg hij]
   exact h.at_ j u hu
def B6H:Value→AV
 | .bool b=>.bool b
 | .int k n=>.int k n
 | .string s=>.str s
 | .pointer a=>match a with | none=>.nilp | some _=>.junk
 | .slice a l c=>match a with | none=>(match l,c with | 0,0=>.emp | _,_=>.junk) | some _=>.junk
 | .nilFunc=>.nilf
 | .nilIface=>.nili
 | .tuple vs=>match vs.toList with | []=>.tuple [] | _::_=>.junk
 | _=>.junk
def H4:Value→AV
 | .agg cs=>.agg (cs.toList.map B6H)
 | v=>B6H v
theorem A8y (rd:Addr→Option Value) (sz:Nat→Nat) (v:Value):Rep rd sz (B6H v) v:=by
 cases v with
 | bool b=>exact .bool _
 | int k n=>exact .int _ _
 | string s=>exact .str _
 | pointer a=>cases a with
  | none=>exact .nilp
  | some a=>exact .junk _
 | slice a l c=>cases a with
  | none=>cases l with
   | zero=>cases c with
    | zero=>exact .emp _
    | succ c=>exact .junk _
   | succ l=>exact .junk _
  | some a=>exact .junk _
 | nilFunc=>exact .nilf
 | nilIface=>exact .nili
 | tuple vs =>
  obtain ⟨l⟩:=vs
  cases l with
  | nil=>exact .tuple _ _ rfl (fun j y c h=>by simp at h)
  | cons x l=>exact .junk _
 | _=>exact .junk _
theorem A6S (rd:Addr→Option Value) (sz:Nat→Nat) (v:Value):Rep rd sz (H4 v) v:=by
 unfold H4
 split
 ·refine .agg _ _ (by simp) fun j y c hy hc=>?_
  simp only [D0y,C9J] at hy
  rw [hc] at hy
  simp only [D0U,D0Y] at hy
  subst hy
  exact A8y rd sz c
 ·exact A8y rd sz v
def ev (A:List AV):Operand→AV
 | .tmp t=>A.getD t .junk
 | .const v=>H4 v
 | .global _=>.junk
 | .func f=>.fn (.func f) [] []
theorem D7 {w:World} {st:St} {A:List AV} {a:Act} (h:H6 w st A a) (x:Operand):G5 w st (ev A x) (a.eval x):=by
 cases x with
 | tmp t =>
  simp only [ev,Act.eval]
  rw [C9i,Array.getD_eq_getD_getElem?]
  cases hA:A[t]? with
  | none=>exact .junk _
  | some v =>
   obtain ⟨c,h1,h2⟩:=h.at_ t v hA
   rw [h1];exact h2
 | const v=>exact A6S _ _ v
 | global g=>exact .junk _
 | func f=>exact .fn _ _ _ _ _ rfl rfl (fun j y c h=>by simp at h) (fun j y c h=>by simp at h)
end Go.Ab
