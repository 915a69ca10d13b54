/- Part 0 of the proof: contracts of the functions that the law reaches -/
import Derived.Tactics
import Derived.RowKit3
import Derived.ArgAppend
import Derived.Orders
import Derived.Laws.Rows
import Derived.Laws.Cells
import Derived.Below
set_option linter.unusedVariables false
set_option linter.unusedSimpArgs false
namespace Go.Ab
open Go
inductive AV where
 | bool (b:Bool)
 | int (k:IntKind) (n:Int)
 | str (s:ByteArray)
 | nilp
 | nilf
 | nili
 | emp
 | arr (e n:Nat) (f:Nat→AV)
 | fptr (v:AV) (r:Nat)
 | own (e b off n:Nat)
 | cown (e b n c:Nat)
 | optr (e b i r:Nat)
 | agg (cs:List AV)
 | fn (f:Fn) (first captured:List AV)
 | iface (t:TypeId) (v:AV)
 | tuple (vs:List AV)
 | ubool
 | junk
instance:Inhabited AV:=⟨.junk⟩
def AV.one:AV→Bool
 | .agg _=>false
 | .tuple _=>false
 | .junk=>false
 | _=>true
def cellsOf:AV→List AV
 | .agg cs=>cs
 | .tuple _=>[]
 | .junk=>[]
 | v=>[v]
inductive Rep (rd:Addr→Option Value) (sz:Nat→Nat):AV→Value→Prop
 | bool (b:Bool):Rep rd sz (.bool b) (.bool b)
 | int (k:IntKind) (n:Int):Rep rd sz (.int k n) (.int k n)
 | str (s:ByteArray):Rep rd sz (.str s) (.string s)
 | nilp:Rep rd sz .nilp (.pointer none)
 | nilf:Rep rd sz .nilf .nilFunc
 | nili:Rep rd sz .nili .nilIface
 | emp (A:Option Addr):Rep rd sz .emp (.slice A 0 0)
 | arr (e n:Nat) (f:Nat→AV) (A:Option Addr) (c:Nat) (g:Nat→Nat→Value) (hc:n≤c) (hA:0<n→∃ a,A=some a)
   (hl:∀ i,i<n→(cellsOf (f i)).length=e) (ho:∀ i,i<n→(cellsOf (f i)).all AV.one=true)
   (hr:∀ a,A=some a→∀ i j,i<n→j<e→rd (a.add (i * e+j))=some (g i j))
   (hg:∀ (i j:Nat) (y:AV),i<n→(cellsOf (f i))[j]?=some y→Rep rd sz y (g i j)):Rep rd sz (.arr e n f) (.slice A n c)
 | fptr (v:AV) (r:Nat) (a:Addr) (g:Nat→Value)
   (hr:∀ j,j<(cellsOf v).length→rd (a.add j)=some (g j))
   (hg:∀ (j:Nat) (y:AV),(cellsOf v)[j]?=some y→Rep rd sz y (g j)):Rep rd sz (.fptr v r) (.pointer (some (a.add r)))
 | own (e b off n c:Nat) (hc:n≤c) (hs:(off+c) * e≤sz b):Rep rd sz (.own e b off n) (.slice (some ⟨b,off * e,none⟩) n c)
 | cown (e b n c:Nat) (hc:n≤c) (hs:c * e≤sz b):Rep rd sz (.cown e b n c) (.slice (some ⟨b,0,none⟩) n c)
 | optr (e b i r:Nat):Rep rd sz (.optr e b i r) (.pointer (some ⟨b,i * e+r,none⟩))
 | agg (cs:List AV) (vs:Array Value) (hl:cs.length=vs.size) (hg:∀ (j:Nat) (y:AV) (c:Value),cs[j]?=some y→vs[j]?=some c→Rep rd sz y c):Rep rd sz (.agg cs) (.agg vs)
 | fn (f:Fn) (fs cs:List AV) (gs ds:Array Value) (hl:fs.length=gs.size) (hl':cs.length=ds.size)
   (hg:∀ (j:Nat) (y:AV) (c:Value),fs[j]?=some y→gs[j]?=some c→Rep rd sz y c) (hd:∀ (j:Nat) (y:AV) (c:Value),cs[j]?=some y→ds[j]?=some c→Rep rd sz y c) :
   Rep rd sz (.fn f fs cs) (.func f gs ds)
 | iface (t:TypeId) (v:AV) (c:Value) (h:Rep rd sz v c):Rep rd sz (.iface t v) (.iface t c)
 | tuple (cs:List AV) (vs:Array Value) (hl:cs.length=vs.size) (hg:∀ (j:Nat) (y:AV) (c:Value),cs[j]?=some y→vs[j]?=some c→Rep rd sz y c):Rep rd sz (.tuple cs) (.tuple vs)
 | ubool (b:Bool):Rep rd sz .ubool (.bool b)
 | junk (c:Value):Rep rd sz .junk c
theorem Rep.mono {rd rd':Addr→Option Value} {sz sz':Nat→Nat} (h1:∀ a v,rd a=some v→rd' a=some v) (h2:∀ b,sz b≤sz' b) {v:AV} {c:Value}
  (h:Rep rd sz v c):Rep rd' sz' v c:=by
 induction h with
 | bool b=>exact .bool b
 | int k n=>exact .int k n
 | str s=>exact .str s
 | nilp=>exact .nilp
 | nilf=>exact .nilf
 | nili=>exact .nili
 | emp A=>exact .emp A
 | arr e n f A c g hc hA hl ho hr hg ih=>exact .arr e n f A c g hc hA hl ho (fun a ha i j hi hj=>h1 _ _ (hr a ha i j hi hj)) (fun i j y hi hy=>ih i j y hi hy)
 | fptr v r a g hr hg ih=>exact .fptr v r a g (fun j hj=>h1 _ _ (hr j hj)) (fun j y hy=>ih j y hy)
 | own e b off n c hc hs=>exact .own e b off n c hc (Nat.le_trans hs (h2 b))
 | cown e b n c hc hs=>exact .cown e b n c hc (Nat.le_trans hs (h2 b))
 | optr e b i r=>exact .optr e b i r
 | agg cs vs hl hg ih=>exact .agg cs vs hl (fun j y c hy hc=>ih j y c hy hc)
 | fn f fs cs gs ds hl hl' hg hd ih ih'=>exact .fn f fs cs gs ds hl hl' (fun j y c hy hc=>ih j y c hy hc) (fun j y c hy hc=>ih' j y c hy hc)
 | iface t v c h ih=>exact .iface t v c ih
 | tuple cs vs hl hg ih=>exact .tuple cs vs hl (fun j y c hy hc=>ih j y c hy hc)
 | ubool b=>exact .ubool b
 | junk c=>exact .junk c
theorem Rep.one {rd:Addr→Option Value} {sz:Nat→Nat} {v:AV} {c:Value} (h:Rep rd sz v c) (h1:v.one=true):c.oneCell'=true∧c.cells=#[c]∧cellsOf v=[v]:=by
 cases h<;>first | (simp [AV.one] at h1;done) | exact ⟨rfl,rfl,rfl⟩
structure M6 where
 ty:TypeId
 e:Nat
 n:Nat
 f:Nat→AV
abbrev St:=Nat→Option M6
def upd (st:St) (b:Nat) (x:M6):St:=fun c=>if c=b then some x else st c
def del (st:St) (b:Nat):St:=fun c=>if c=b then none else st c
def A1i (w:World) (st:St) (a:Addr):Option Value:=match st a.block with | none=>w.cell? a | some _=>none
def P3 (w:World) (b:Nat):Nat:=match w.heap[b]? with | some (.cells c _ _)=>c.size | _=>0
abbrev E9 (w:World) (st:St):AV→Value→Prop:=Rep (A1i w st) (P3 w)
structure S5 (w:World) (st:St) (b:Nat) (x:M6) (cs:Array Value):Prop where
 heap:w.heap[b]?=some (.cells cs x.ty (0,0))
 size:x.n * x.e≤cs.size
 len:∀ i,i<x.n→(cellsOf (x.f i)).length=x.e
 one:∀ i,i<x.n→(cellsOf (x.f i)).all AV.one=true
 cell:∀ (i j:Nat) (y:AV),i<x.n→(cellsOf (x.f i))[j]?=some y→∃ c,cs[i * x.e+j]?=some c∧E9 w st y c
def D0 (st:St) (w:World):Prop:=∀ b x,st b=some x→∃ cs,S5 w st b x cs
structure M7 (st:St) (w:World) (st':St) (w':World):Prop where
 os:w'.os=w.os
 tape:w'.tape=w.tape
 output:w'.output=w.output
 size:w.heap.size≤w'.heap.size
 blk:∀ b,b<w.heap.size→st b=none→w'.heap[b]?=w.heap[b]?∧st' b=none
 szm:∀ b,P3 w b≤P3 w' b
theorem M7.refl (st:St) (w:World):M7 st w st w:=⟨rfl,rfl,rfl,Nat.le_refl _,fun _ _ h=>⟨rfl,h⟩,fun _=>Nat.le_refl _⟩
theorem M7.trans {s0 s1 s2:St} {w0 w1 w2:World} (h:M7 s0 w0 s1 w1) (k:M7 s1 w1 s2 w2):M7 s0 w0 s2 w2 :=
 ⟨k.os.trans h.os,k.tape.trans h.tape,k.output.trans h.output,Nat.le_trans h.size k.size,
 fun b hb hs=>by
  obtain ⟨h1,h2⟩:=h.blk b hb hs
  obtain ⟨k1,k2⟩:=k.blk b (Nat.lt_of_lt_of_le hb h.size) h2
  exact ⟨k1.trans h1,k2⟩,
 fun b=>Nat.le_trans (h.szm b) (k.szm b)⟩
theorem A6e {w w':World} {a:Addr} (h:w'.heap[a.block]?=w.heap[a.block]?):w'.cell? a=w.cell? a:=by
 unfold World.cell?;rw [h]
theorem B3m {w:World} {a:Addr} {v:Value} (h:w.cell? a=some v):a.block<w.heap.size:=block_lt_of_cell h
theorem M7.rd {st st':St} {w w':World} (h:M7 st w st' w') (a:Addr) (v:Value) (hr:A1i w st a=some v):A1i w' st' a=some v:=by
 unfold A1i at *
 cases hs:st a.block with
 | some x=>rw [hs] at hr;cases hr
 | none =>
  rw [hs] at hr
  obtain ⟨h1,h2⟩:=h.blk a.block (B3m hr) hs
  rw [h2]
  show w'.cell? a=some v
  rw [A6e h1];exact hr
theorem M7.rep {st st':St} {w w':World} (h:M7 st w st' w') {v:AV} {c:Value} (hr:E9 w st v c):E9 w' st' v c:=hr.mono h.rd h.szm
structure G2 (w:World) (st:St) (A:List AV) (a:Act):Prop where
 len:A.length=a.tmps.size
 at_:∀ (i:Nat) (v:AV),A[i]?=some v→∃ c,a.tmps[i]?=some c∧E9 w st v c
 defers:a.defers=[]
theorem G2.evo {st st':St} {w w':World} {A:List AV} {a:Act} (h:G2 w st A a) (he:M7 st w st' w'):G2 w' st' A a :=
 ⟨h.len,fun i v hv=>by obtain ⟨c,h1,h2⟩:=h.at_ i v hv;exact ⟨c,h1,he.rep h2⟩,h.defers⟩
def D9 (A:List AV) (d:Option Tmp) (v:AV):List AV:=match d with | some i=>A.set i v | none=>A
theorem G2.put {st:St} {w:World} {A:List AV} {a:Act} (h:G2 w st A a) (d:Option Tmp) {v:AV} {c:Value} (hv:E9 w st v c):G2 w st (D9 A d v) (a.put d c):=by
 cases d with
 | none=>exact h
 | some i =>
  refine ⟨by simp [D9,Act.put,h.len],fun j u hu=>?_,h.defers⟩
  simp only [D9,List.getElem?_set] at hu
  simp only [Act.put,Array.getElem?_setIfInBounds]
  by_cases hij:i=j
  ·subst hij
   rw [if_pos rfl] at hu
   split at hu
   ·rename_i hlt
    simp only [Option.some.injEq] at hu
    subst hu
    have:i<a.tmps.size:=by rw [←h.len];exact hlt
    exact ⟨c,by simp [this],hv⟩
   ·cases hu
  ·rw [if_neg hij] at hu
   rw [if_neg hij]
   exact h.at_ j u hu
def B3e:Value→AV
 | .bool b=>.bool b
 | .int k n=>.int k n
 | .string s=>.str s
 | .pointer a=>match a with | none=>.nilp | some _=>.junk
 | .slice a l c=>match a with | none=>(match l,c with | 0,0=>.emp | _,_=>.junk) | some _=>.junk
 | .nilFunc=>.nilf
 | .nilIface=>.nili
 | .tuple vs=>match vs.toList with | []=>.tuple [] | _::_=>.junk
 | _=>.junk
def F9:Value→AV
 | .agg cs=>.agg (cs.toList.map B3e)
 | v=>B3e v
theorem A6w (rd:Addr→Option Value) (sz:Nat→Nat) (v:Value):Rep rd sz (B3e v) v:=by
 cases v with
 | bool b=>exact .bool _
 | int k n=>exact .int _ _
 | string s=>exact .str _
 | pointer a=>cases a with
  | none=>exact .nilp
  | some a=>exact .junk _
 | slice a l c=>cases a with
  | none=>cases l with
   | zero=>cases c with
    | zero=>exact .emp _
    | succ c=>exact .junk _
   | succ l=>exact .junk _
  | some a=>exact .junk _
 | nilFunc=>exact .nilf
 | nilIface=>exact .nili
 | tuple vs =>
  obtain ⟨l⟩:=vs
  cases l with
  | nil=>exact .tuple _ _ rfl (fun j y c h=>by simp at h)
  | cons x l=>exact .junk _
 | _=>exact .junk _
theorem A4T (rd:Addr→Option Value) (sz:Nat→Nat) (v:Value):Rep rd sz (F9 v) v:=by
 unfold F9
 split
 ·refine .agg _ _ (by simp) fun j y c hy hc=>?_
  simp only [List.getElem?_map,Array.getElem?_toList] at hy
  rw [hc] at hy
  simp only [Option.map_some,Option.some.injEq] at hy
  subst hy
  exact A6w rd sz c
 ·exact A6w rd sz v
def ev (A:List AV):Operand→AV
 | .tmp t=>A.getD t .junk
 | .const v=>F9 v
 | .global _=>.junk
 | .func f=>.fn (.func f) [] []
theorem C7 {w:World} {st:St} {A:List AV} {a:Act} (h:G2 w st A a) (x:Operand):E9 w st (ev A x) (a.eval x):=by
 cases x with
 | tmp t =>
  simp only [ev,Act.eval]
  rw [List.getD_eq_getElem?_getD,Array.getD_eq_getD_getElem?]
  cases hA:A[t]? with
  | none=>exact .junk _
  | some v =>
   obtain ⟨c,h1,h2⟩:=h.at_ t v hA
   rw [h1];exact h2
 | const v=>exact A4T _ _ v
 | global g=>exact .junk _
 | func f=>exact .fn _ _ _ _ _ rfl rfl (fun j y c h=>by simp at h) (fun j y c h=>by simp at h)
end Go.Ab
