/- Part 1 of the proof: contracts -/
import Derived.Test.YtaapofnkmpiknaaGreatPt0
import Derived.Laws.CopyRow
import Derived.Laws.Tables
import Derived.Laws.MakeOwn
import Derived.Lib.ConvBytes
set_option linter.unusedVariables false
set_option linter.unusedSimpArgs false
namespace Go.Ab
open Go
theorem H9.lt {st:St} {w:World} (h:H9 st w) {b:Nat} {x:L7} (hx:st b=some x):b<w.heap.size:=by
 obtain ⟨cs,hb⟩:=h b x hx
 exact (D8b.1 hb.heap).1
theorem H9.fresh {st:St} {w:World} (h:H9 st w):st w.heap.size=none:=by
 cases hx:st w.heap.size with
 | none=>rfl
 | some x=>exact absurd (h.lt hx) (Nat.lt_irrefl _)
theorem B5V {w w':World} (h:∀ b,b<w.heap.size→w'.heap[b]?=w.heap[b]?) (b:Nat):A1F w b≤A1F w' b:=by
 by_cases hb:b<w.heap.size
 ·unfold A1F;rw [h b hb];exact D7l _
 ·have:A1F w b=0:=by unfold A1F;rw [D9x (by omega)]
  omega
theorem A2G.evo {w w':World} {st st':St} {b:Nat} {x:L7} {cs:Array Value} (h:A2G w st b x cs) (he:Evo st w st' w') (hh:w'.heap[b]?=w.heap[b]?):A2G w' st' b x cs :=
 ⟨hh.trans h.heap,h.size,h.len,h.one,fun i j y hi hy=>by obtain ⟨c,h1,h2⟩:=h.cell i j y hi hy;exact ⟨c,h1,he.rep h2⟩⟩
structure A4f (w w':World):Prop where
 os:w'.os=w.os
 tape:w'.tape=w.tape
 output:w'.output=w.output
 size:w.heap.size≤w'.heap.size
 blk:∀ b,b<w.heap.size→w'.heap[b]?=w.heap[b]?
theorem A4f.refl (w:World):A4f w w:=⟨rfl,rfl,rfl,D7l _,fun _ _=>rfl⟩
theorem A4f.trans {a b c:World} (h:A4f a b) (k:A4f b c):A4f a c :=
 ⟨k.os.trans h.os,k.tape.trans h.tape,k.output.trans h.output,D8r h.size k.size,fun x hx=>(k.blk x (Nat.lt_of_lt_of_le hx h.size)).trans (h.blk x hx)⟩
theorem A4f.alloc (w:World) (o:Obj):A4f w (w.alloc o):=⟨rfl,rfl,rfl,by simp,fun b hb=>heap_alloc_old w o b hb⟩
theorem A4f.evo {w w':World} (h:A4f w w') (st:St):Evo st w st w':=⟨h.os,h.tape,h.output,h.size,fun b hb hs=>⟨h.blk b hb,hs⟩,B5V h.blk⟩
theorem H9.adds {st:St} {w w':World} (h:H9 st w) (ha:A4f w w'):H9 st w':=fun b x hx=>by
 obtain ⟨cs,hb⟩:=h b x hx
 exact ⟨cs,hb.evo (ha.evo st) (ha.blk b (h.lt hx))⟩
theorem Evo.owned {st:St} {w w':World} (h:H9 st w) (ha:A4f w w') {b:Nat} (hb:w.heap.size≤b) (x:L7):Evo st w (upd st b x) w' :=
 ⟨ha.os,ha.tape,ha.output,ha.size,fun c hc hs=>⟨ha.blk c hc,by unfold upd;rw [if_neg (by omega)];exact hs⟩,B5V ha.blk⟩
theorem H9.owned {st:St} {w w':World} (h:H9 st w) (ha:A4f w w') {b:Nat} (hb:w.heap.size≤b) (x:L7) (cs:Array Value) (hx:A2G w' (upd st b x) b x cs):H9 (upd st b x) w':=fun c y hy=>by
 unfold upd at hy
 split at hy
 ·rename_i hc
  subst hc
  cases hy
  exact ⟨cs,hx⟩
 ·obtain ⟨ds,hd⟩:=h c y hy
  exact ⟨ds,hd.evo (Evo.owned h ha hb x) (ha.blk c (h.lt hy))⟩
theorem B7U {w:World} {g:Nat} {cs ds:Array Value} {t:TypeId} {fr:Nat×Nat} (hg:w.heap[g]?=some (.cells cs t fr)) (hs:cs.size≤ds.size) (b:Nat):A1F w b≤A1F (w.setRow g ds) b:=by
 unfold A1F World.setRow
 simp only [D9V]
 by_cases hb:g=b
 ·subst hb;rw [if_pos rfl,hg];simpa using hs
 ·rw [if_neg hb];exact D7l _
theorem A6m {w:World} {g b:Nat} (ds:Array Value) (h:b≠g):(w.setRow g ds).heap[b]?=w.heap[b]?:=by
 unfold World.setRow
 simp only [D9V]
 rw [if_neg (fun e=>h e.symm)]
theorem Y3 {w:World} {g:Nat} {cs ds:Array Value} {t:TypeId} {fr:Nat×Nat} (hg:w.heap[g]?=some (.cells cs t fr)):(w.setRow g ds).heap[g]?=some (.cells ds t fr):=by
 unfold World.setRow
 simp only [D9V,if_true,hg,D9j]
theorem Evo.setRow {st:St} {w:World} {g:Nat} {x y:L7} {cs ds:Array Value} {t:TypeId} {fr:Nat×Nat} (hx:st g=some x) (hg:w.heap[g]?=some (.cells cs t fr)) (hs:cs.size≤ds.size) :
  Evo st w (upd st g y) (w.setRow g ds) :=
 ⟨rfl,rfl,rfl,by simp,fun b hb hn=>by
  have hne:b≠g:=fun e=>by subst e;rw [hx] at hn;cases hn
  exact ⟨A6m ds hne,by unfold upd;rw [if_neg hne];exact hn⟩,B7U hg hs⟩
theorem H9.setRow {st:St} {w:World} (h:H9 st w) {g:Nat} {x y:L7} {cs ds:Array Value} {t:TypeId} {fr:Nat×Nat} (hx:st g=some x) (hg:w.heap[g]?=some (.cells cs t fr)) (hs:cs.size≤ds.size)
  (hy:A2G (w.setRow g ds) (upd st g y) g y ds):H9 (upd st g y) (w.setRow g ds):=fun c z hz=>by
 unfold upd at hz
 split at hz
 ·rename_i hc
  subst hc
  cases hz
  exact ⟨ds,hy⟩
 ·rename_i hc
  obtain ⟨es,he⟩:=h c z hz
  exact ⟨es,he.evo (Evo.setRow hx hg hs) (A6m ds hc)⟩
structure C0 where
 desc:TypeDesc
 size:Nat
 bytes:Nat
 zero:Value
 plain:Bool
def C0.agg (r:C0):Bool:=match r.desc with | .struct _=>true | .array _ _=>true | _=>false
abbrev H5:=TypeId→Option C0
def TOk (P:Program) (T:H5):Prop:=∀ t r,T t=some r→P.underlying t=some r.desc∧∃ i,P.info? t=some i∧i.size=r.size∧i.bytes=r.bytes∧i.zero=some r.zero
def C3o (P : Program) (T : H5) : Prop := ∀ t r, T t = some r → r.plain = true → P.stoodInHeld t = false ∧ P.eqGuardType P.depth t = false ∧ ∀ fs, r.desc = .struct fs → ∀ f ∈ fs.toList, f.name ≠ "_"
section
variable {P:Program} {T:H5} (hT:TOk P T)
include hT
theorem TOk.und {t:TypeId} {r:C0} (h:T t=some r) (w:World):(underlying t).run P w=.ok r.desc w:=run_underlying (hT t r h).1 w
theorem TOk.info {t:TypeId} {r:C0} (h:T t=some r) (w:World):∃ i,(typeInfo t).run P w=.ok i w∧i.size=r.size∧i.bytes=r.bytes∧i.zero=some r.zero:=by
 obtain ⟨_,i,h1,h2⟩:=hT t r h
 exact ⟨i,by simp [typeInfo,h1],h2⟩
theorem TOk.sizeOf {t:TypeId} {r:C0} (h:T t=some r) (w:World):(Go.sizeOf t).run P w=.ok r.size w:=by
 obtain ⟨i,h1,h2,_⟩:=TOk.info hT h w
 simp [Go.sizeOf,h1,h2]
theorem TOk.zero {t:TypeId} {r:C0} (h:T t=some r) (w:World):(zeroValue t).run P w=.ok r.zero w:=by
 obtain ⟨i,h1,_,_,h2⟩:=TOk.info hT h w
 simp [zeroValue,h1,h2]
theorem TOk.isAgg {t:TypeId} {r:C0} (h:T t=some r) (w:World):(Go.isAgg t).run P w=.ok r.agg w:=by
 have:=TOk.und hT h w
 simp only [Go.isAgg,Sem.run_bind,this,Result.andThen_ok,C0.agg]
 cases r.desc<;>rfl
end
abbrev KK:=AV→St→Prop
def Nxt (st:St) (w:World) (k:KK) (a:Act) (d:Option Tmp) (next:Act→World→Prop):Prop :=
 ∀ v c st' w',k v st'→K8 w' st' v c→H9 st' w'→Evo st w st' w'→next (a.put d c) w'
theorem Nxt.same {st:St} {w:World} {k:KK} {a:Act} {d:Option Tmp} {next:Act→World→Prop} (h:Nxt st w k a d next) (hS:H9 st w) {v:AV} {c:Value} (hk:k v st) (hv:K8 w st v c):next (a.put d c) w :=
 h v c st w hk hv hS (Evo.refl _ _)
theorem A4M {w:World} {st:St} {a:Addr} {v:Value} (h:A3N w st a=some v):w.cell? a=some v:=by
 unfold A3N at h
 split at h
 ·exact h
 ·cases h
def pick (r:C0) (cs:List AV) (o:Nat) (k:AV→Prop):Prop :=
 match r.agg with
 | true=>o+r.size≤cs.length∧k (.agg ((cs.drop o).take r.size))
 | false=>match cs[o]? with | some y=>k y | none=>False
def A3A (T:H5) (t:TypeId) (p:AV) (st:St) (k:KK):Prop :=
 match T t with
 | none=>False
 | some r =>
  match p with
  | .fptr v o=>pick r (cellsOf v) o (fun y=>k y st)
  | .optr e b i o=>match st b with
   | some x=>e=x.e∧i<x.n∧pick r (cellsOf (x.f i)) o (fun y=>k y st)
   | none=>False
  | _=>False
theorem Z1 {P:Program} {T:H5} (hT:TOk P T) {t:TypeId} {r:C0} (ht:T t=some r) {w:World} {st:St} {cs:List AV} {o:Nat} {a:Addr} {k:AV→Prop}
  (hc:∀ j y,cs[j]?=some y→∃ c,w.cell? (a.add j)=some c∧K8 w st y c) (h:pick r cs o k) :
  ∃ y c,k y∧K8 w st y c∧(loadVar t (a.add o)).run P w=.ok c w:=by
 unfold pick at h
 have hag:=TOk.isAgg hT ht w
 cases hagg:r.agg with
 | true =>
  rw [hagg] at h
  obtain ⟨hlen,hk⟩:=h
  have hex:∀ j,∃ c,j<r.size→w.cell? ((a.add o).add j)=some c∧∀ y,cs[o+j]?=some y→K8 w st y c:=by
   intro j
   by_cases hj:j<r.size
   ·obtain ⟨c,h1,h2⟩:=hc (o+j) cs[o+j] (D7k (by omega))
    refine ⟨c,fun _=>⟨by rw [←h1];congr 1;unfold Addr.add;split<;>split<;>split<;>simp_all<;>omega,fun y hy=>?_⟩⟩
    rw [D7k (by omega)] at hy
    cases hy;exact h2
   ·exact ⟨undef,fun h=>absurd h hj⟩
  obtain ⟨g,hg⟩:=Classical.axiomOfChoice hex
  have hload:=run_loadCells (P:=P) (w:=w) (a.add o) r.size g (fun j hj=>(hg j hj).1)
  refine ⟨_,_,hk,?_,by simp only [loadVar,Sem.run_bind,hag,hagg,Result.andThen_ok,if_true,TOk.sizeOf hT ht w,hload,Sem.run_map];rfl⟩
  refine .agg _ _ (by simp;omega) fun j y c hy hcj=>?_
  have hj:j<r.size:=by
   rcases D8E j r.size with h | h
   ·exact h
   ·rw [List.getElem?_take,if_neg (by omega)] at hy;cases hy
  rw [D7r hj,D8J] at hy
  simp [hj] at hcj
  subst hcj
  exact (hg j hj).2 y hy
 | false =>
  rw [hagg] at h
  cases hy:cs[o]? with
  | none=>rw [hy] at h;exact h.elim
  | some y =>
   rw [hy] at h
   obtain ⟨c,h1,h2⟩:=hc o y hy
   exact ⟨y,c,h,h2,by simp only [loadVar,Sem.run_bind,hag,hagg,Result.andThen_ok,D8Y,D9L,run_load,h1]⟩
theorem C7Q {P:Program} {T:H5} (hT:TOk P T) {o:Oper} {A:List AV} {a:Act} {st:St} {w:World} {t:TypeId} {x:Operand} {k:KK} {next:Act→World→Prop} {Q:Exit→Act→World→Prop}
  (ho:o.op=.load t x) (hA:Q0 w st A a) (hS:H9 st w) (h:A3A T t (ev A x) st k) (hn:Nxt st w k a o.dst next):o.wp P a w next Q:=by
 unfold A3A at h
 cases hr:T t with
 | none=>rw [hr] at h;exact h.elim
 | some r =>
  rw [hr] at h
  have hx:=I2 hA x
  suffices hmain:∃ y c,k y st∧K8 w st y c∧(Instr.loadAt t (a.eval x)).run P w=.ok c w by
   obtain ⟨y,c,hk,hy,hrun⟩:=hmain
   unfold Oper.wp
   simp only [execOp,ho,Sem.run_bind,hrun,Result.andThen_ok,Sem.run_pure,Oper.upon]
   exact hn.same hS hk hy
  generalize a.eval x=p at hx
  generalize ev A x=q at h hx
  cases hx with
  | fptr v off ad g hr' hg' =>
   obtain ⟨y,c,hk,hy,hrun⟩:=Z1 hT hr (w:=w) (st:=st) (a:=ad) (fun j y hy=>⟨g j,A4M (hr' j (D7w.1 hy).1),hg' j y hy⟩) h
   exact ⟨y,c,hk,hy,by simp only [Instr.loadAt,Instr.sureAddr,Sem.run_bind,Sem.run_pure,Result.andThen_ok,hrun]⟩
  | optr e b i off =>
   simp only at h
   cases hb:st b with
   | none=>rw [hb] at h;exact h.elim
   | some bk =>
    rw [hb] at h
    obtain ⟨he,hi,h⟩:=h
    obtain ⟨cs,hok⟩:=hS b bk hb
    obtain ⟨y,c,hk,hy,hrun⟩:=Z1 hT hr (w:=w) (st:=st) (a:=⟨b,i * e,none⟩) (o:=off) (fun j y hy=>by
     obtain ⟨c,h1,h2⟩:=hok.cell i j y hi hy
     refine ⟨c,?_,h2⟩
     rw [Addr.add_lit,cell_of_row w b _ cs bk.ty (0,0) hok.heap,he];exact h1) h
    refine ⟨y,c,hk,hy,?_⟩
    rw [Addr.add_lit] at hrun
    simp only [Instr.loadAt,Instr.sureAddr,Sem.run_bind,Sem.run_pure,Result.andThen_ok,hrun]
  | _=>exact h.elim
end Go.Ab
