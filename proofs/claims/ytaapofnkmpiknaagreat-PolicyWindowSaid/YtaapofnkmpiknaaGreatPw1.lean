/- Part 1 of the proof: contracts of the functions that the law reaches -/
import Derived.Test.YtaapofnkmpiknaaGreatPw0
import Derived.Laws.CopyRow
import Derived.Laws.Tables
import Derived.Laws.MakeOwn
import Derived.Lib.ConvBytes
set_option linter.unusedVariables false
set_option linter.unusedSimpArgs false
namespace Go.Ab
open Go
theorem E0.lt {st:St} {w:World} (h:E0 st w) {b:Nat} {x:H1} (hx:st b=some x):b<w.heap.size:=by
 obtain ⟨cs,hb⟩:=h b x hx
 exact (C9U.1 hb.heap).1
theorem E0.fresh {st:St} {w:World} (h:E0 st w):st w.heap.size=none:=by
 cases hx:st w.heap.size with
 | none=>rfl
 | some x=>exact absurd (h.lt hx) (Nat.lt_irrefl _)
theorem B0w {w w':World} (h:∀ b,b<w.heap.size→w'.heap[b]?=w.heap[b]?) (b:Nat):S8 w b≤S8 w' b:=by
 by_cases hb:b<w.heap.size
 ·unfold S8;rw [h b hb];exact C9q _
 ·have:S8 w b=0:=by unfold S8;rw [D1k (by omega)]
  omega
theorem W7.evo {w w':World} {st st':St} {b:Nat} {x:H1} {cs:Array Value} (h:W7 w st b x cs) (he:P6 st w st' w') (hh:w'.heap[b]?=w.heap[b]?):W7 w' st' b x cs :=
 ⟨hh.trans h.heap,h.size,h.len,h.one,fun i j y hi hy=>by obtain ⟨c,h1,h2⟩:=h.cell i j y hi hy;exact ⟨c,h1,he.rep h2⟩⟩
structure A0i (w w':World):Prop where
 os:w'.os=w.os
 tape:w'.tape=w.tape
 output:w'.output=w.output
 size:w.heap.size≤w'.heap.size
 blk:∀ b,b<w.heap.size→w'.heap[b]?=w.heap[b]?
theorem A0i.refl (w:World):A0i w w:=⟨rfl,rfl,rfl,C9q _,fun _ _=>rfl⟩
theorem A0i.trans {a b c:World} (h:A0i a b) (k:A0i b c):A0i a c :=
 ⟨k.os.trans h.os,k.tape.trans h.tape,k.output.trans h.output,D0l h.size k.size,fun x hx=>(k.blk x (Nat.lt_of_lt_of_le hx h.size)).trans (h.blk x hx)⟩
theorem A0i.alloc (w:World) (o:Obj):A0i w (w.alloc o):=⟨rfl,rfl,rfl,by simp,fun b hb=>heap_alloc_old w o b hb⟩
theorem A0i.evo {w w':World} (h:A0i w w') (st:St):P6 st w st w':=⟨h.os,h.tape,h.output,h.size,fun b hb hs=>⟨h.blk b hb,hs⟩,B0w h.blk⟩
theorem E0.adds {st:St} {w w':World} (h:E0 st w) (ha:A0i w w'):E0 st w':=fun b x hx=>by
 obtain ⟨cs,hb⟩:=h b x hx
 exact ⟨cs,hb.evo (ha.evo st) (ha.blk b (h.lt hx))⟩
theorem P6.owned {st:St} {w w':World} (h:E0 st w) (ha:A0i w w') {b:Nat} (hb:w.heap.size≤b) (x:H1):P6 st w (upd st b x) w' :=
 ⟨ha.os,ha.tape,ha.output,ha.size,fun c hc hs=>⟨ha.blk c hc,by unfold upd;rw [if_neg (by omega)];exact hs⟩,B0w ha.blk⟩
theorem E0.owned {st:St} {w w':World} (h:E0 st w) (ha:A0i w w') {b:Nat} (hb:w.heap.size≤b) (x:H1) (cs:Array Value) (hx:W7 w' (upd st b x) b x cs):E0 (upd st b x) w':=fun c y hy=>by
 unfold upd at hy
 split at hy
 ·rename_i hc
  subst hc
  cases hy
  exact ⟨cs,hx⟩
 ·obtain ⟨ds,hd⟩:=h c y hy
  exact ⟨ds,hd.evo (P6.owned h ha hb x) (ha.blk c (h.lt hy))⟩
theorem B1P {w:World} {g:Nat} {cs ds:Array Value} {t:TypeId} {fr:Nat×Nat} (hg:w.heap[g]?=some (.cells cs t fr)) (hs:cs.size≤ds.size) (b:Nat):S8 w b≤S8 (w.setRow g ds) b:=by
 unfold S8 World.setRow
 simp only [D1w]
 by_cases hb:g=b
 ·subst hb;rw [if_pos rfl,hg];simpa using hs
 ·rw [if_neg hb];exact C9q _
theorem A2U {w:World} {g b:Nat} (ds:Array Value) (h:b≠g):(w.setRow g ds).heap[b]?=w.heap[b]?:=by
 unfold World.setRow
 simp only [D1w]
 rw [if_neg (fun e=>h e.symm)]
theorem M9 {w:World} {g:Nat} {cs ds:Array Value} {t:TypeId} {fr:Nat×Nat} (hg:w.heap[g]?=some (.cells cs t fr)):(w.setRow g ds).heap[g]?=some (.cells ds t fr):=by
 unfold World.setRow
 simp only [D1w,if_true,hg,D0U]
theorem P6.setRow {st:St} {w:World} {g:Nat} {x y:H1} {cs ds:Array Value} {t:TypeId} {fr:Nat×Nat} (hx:st g=some x) (hg:w.heap[g]?=some (.cells cs t fr)) (hs:cs.size≤ds.size) :
  P6 st w (upd st g y) (w.setRow g ds) :=
 ⟨rfl,rfl,rfl,by simp,fun b hb hn=>by
  have hne:b≠g:=fun e=>by subst e;rw [hx] at hn;cases hn
  exact ⟨A2U ds hne,by unfold upd;rw [if_neg hne];exact hn⟩,B1P hg hs⟩
theorem E0.setRow {st:St} {w:World} (h:E0 st w) {g:Nat} {x y:H1} {cs ds:Array Value} {t:TypeId} {fr:Nat×Nat} (hx:st g=some x) (hg:w.heap[g]?=some (.cells cs t fr)) (hs:cs.size≤ds.size)
  (hy:W7 (w.setRow g ds) (upd st g y) g y ds):E0 (upd st g y) (w.setRow g ds):=fun c z hz=>by
 unfold upd at hz
 split at hz
 ·rename_i hc
  subst hc
  cases hz
  exact ⟨ds,hy⟩
 ·rename_i hc
  obtain ⟨es,he⟩:=h c z hz
  exact ⟨es,he.evo (P6.setRow hx hg hs) (A2U ds hc)⟩
structure B5 where
 desc:TypeDesc
 size:Nat
 bytes:Nat
 zero:Value
 plain:Bool
def B5.agg (r:B5):Bool:=match r.desc with | .struct _=>true | .array _ _=>true | _=>false
abbrev C7:=TypeId→Option B5
def Q6 (P:Program) (T:C7):Prop:=∀ t r,T t=some r→P.underlying t=some r.desc∧∃ i,P.info? t=some i∧i.size=r.size∧i.bytes=r.bytes∧i.zero=some r.zero
def B6n (P : Program) (T : C7) : Prop := ∀ t r, T t = some r → r.plain = true → P.stoodInHeld t = false ∧ P.eqGuardType P.depth t = false ∧ ∀ fs, r.desc = .struct fs → ∀ f ∈ fs.toList, f.name ≠ "_"
section
variable {P:Program} {T:C7} (hT:Q6 P T)
include hT
theorem Q6.und {t:TypeId} {r:B5} (h:T t=some r) (w:World):(underlying t).run P w=.ok r.desc w:=run_underlying (hT t r h).1 w
theorem Q6.info {t:TypeId} {r:B5} (h:T t=some r) (w:World):∃ i,(typeInfo t).run P w=.ok i w∧i.size=r.size∧i.bytes=r.bytes∧i.zero=some r.zero:=by
 obtain ⟨_,i,h1,h2⟩:=hT t r h
 exact ⟨i,by simp [typeInfo,h1],h2⟩
theorem Q6.sizeOf {t:TypeId} {r:B5} (h:T t=some r) (w:World):(Go.sizeOf t).run P w=.ok r.size w:=by
 obtain ⟨i,h1,h2,_⟩:=Q6.info hT h w
 simp [Go.sizeOf,h1,h2]
theorem Q6.zero {t:TypeId} {r:B5} (h:T t=some r) (w:World):(zeroValue t).run P w=.ok r.zero w:=by
 obtain ⟨i,h1,_,_,h2⟩:=Q6.info hT h w
 simp [zeroValue,h1,h2]
theorem Q6.isAgg {t:TypeId} {r:B5} (h:T t=some r) (w:World):(Go.isAgg t).run P w=.ok r.agg w:=by
 have:=Q6.und hT h w
 simp only [Go.isAgg,Sem.run_bind,this,Result.andThen_ok,B5.agg]
 cases r.desc<;>rfl
end
abbrev KK:=AV→St→Prop
def Nxt (st:St) (w:World) (k:KK) (a:Act) (d:Option Tmp) (next:Act→World→Prop):Prop :=
 ∀ v c st' w',k v st'→G5 w' st' v c→E0 st' w'→P6 st w st' w'→next (a.put d c) w'
theorem Nxt.same {st:St} {w:World} {k:KK} {a:Act} {d:Option Tmp} {next:Act→World→Prop} (h:Nxt st w k a d next) (hS:E0 st w) {v:AV} {c:Value} (hk:k v st) (hv:G5 w st v c):next (a.put d c) w :=
 h v c st w hk hv hS (P6.refl _ _)
theorem A1w {w:World} {st:St} {a:Addr} {v:Value} (h:A0y w st a=some v):w.cell? a=some v:=by
 unfold A0y at h
 split at h
 ·exact h
 ·cases h
def pick (r:B5) (cs:List AV) (o:Nat) (k:AV→Prop):Prop :=
 match r.agg with
 | true=>o+r.size≤cs.length∧k (.agg ((cs.drop o).take r.size))
 | false=>match cs[o]? with | some y=>k y | none=>False
def A0n (T:C7) (t:TypeId) (p:AV) (st:St) (k:KK):Prop :=
 match T t with
 | none=>False
 | some r =>
  match p with
  | .fptr v o=>pick r (A2 v) o (fun y=>k y st)
  | .optr e b i o=>match st b with
   | some x=>e=x.e∧i<x.n∧pick r (A2 (x.f i)) o (fun y=>k y st)
   | none=>False
  | _=>False
theorem N4 {P:Program} {T:C7} (hT:Q6 P T) {t:TypeId} {r:B5} (ht:T t=some r) {w:World} {st:St} {cs:List AV} {o:Nat} {a:Addr} {k:AV→Prop}
  (hc:∀ j y,cs[j]?=some y→∃ c,w.cell? (a.add j)=some c∧G5 w st y c) (h:pick r cs o k) :
  ∃ y c,k y∧G5 w st y c∧(loadVar t (a.add o)).run P w=.ok c w:=by
 unfold pick at h
 have hag:=Q6.isAgg hT ht w
 cases hagg:r.agg with
 | true =>
  rw [hagg] at h
  obtain ⟨hlen,hk⟩:=h
  have hex:∀ j,∃ c,j<r.size→w.cell? ((a.add o).add j)=some c∧∀ y,cs[o+j]?=some y→G5 w st y c:=by
   intro j
   by_cases hj:j<r.size
   ·obtain ⟨c,h1,h2⟩:=hc (o+j) cs[o+j] (C9p (by omega))
    refine ⟨c,fun _=>⟨by rw [←h1];congr 1;unfold Addr.add;split<;>split<;>split<;>simp_all<;>omega,fun y hy=>?_⟩⟩
    rw [C9p (by omega)] at hy
    cases hy;exact h2
   ·exact ⟨undef,fun h=>absurd h hj⟩
  obtain ⟨g,hg⟩:=Classical.axiomOfChoice hex
  have hload:=run_loadCells (P:=P) (w:=w) (a.add o) r.size g (fun j hj=>(hg j hj).1)
  refine ⟨_,_,hk,?_,by simp only [loadVar,Sem.run_bind,hag,hagg,Result.andThen_ok,if_true,Q6.sizeOf hT ht w,hload,Sem.run_map];rfl⟩
  refine .agg _ _ (by simp;omega) fun j y c hy hcj=>?_
  have hj:j<r.size:=by
   rcases D0D j r.size with h | h
   ·exact h
   ·rw [List.getElem?_take,if_neg (by omega)] at hy;cases hy
  rw [C9w hj,D0I] at hy
  simp [hj] at hcj
  subst hcj
  exact (hg j hj).2 y hy
 | false =>
  rw [hagg] at h
  cases hy:cs[o]? with
  | none=>rw [hy] at h;exact h.elim
  | some y =>
   rw [hy] at h
   obtain ⟨c,h1,h2⟩:=hc o y hy
   exact ⟨y,c,h,h2,by simp only [loadVar,Sem.run_bind,hag,hagg,Result.andThen_ok,D0J,D1x,run_load,h1]⟩
theorem B9W {P:Program} {T:C7} (hT:Q6 P T) {o:Oper} {A:List AV} {a:Act} {st:St} {w:World} {t:TypeId} {x:Operand} {k:KK} {next:Act→World→Prop} {Q:Exit→Act→World→Prop}
  (ho:o.op=.load t x) (hA:H6 w st A a) (hS:E0 st w) (h:A0n T t (ev A x) st k) (hn:Nxt st w k a o.dst next):o.wp P a w next Q:=by
 unfold A0n at h
 cases hr:T t with
 | none=>rw [hr] at h;exact h.elim
 | some r =>
  rw [hr] at h
  have hx:=D7 hA x
  suffices hmain:∃ y c,k y st∧G5 w st y c∧(Instr.loadAt t (a.eval x)).run P w=.ok c w by
   obtain ⟨y,c,hk,hy,hrun⟩:=hmain
   unfold Oper.wp
   simp only [execOp,ho,Sem.run_bind,hrun,Result.andThen_ok,Sem.run_pure,Oper.upon]
   exact hn.same hS hk hy
  generalize a.eval x=p at hx
  generalize ev A x=q at h hx
  cases hx with
  | fptr v off ad g hr' hg' =>
   obtain ⟨y,c,hk,hy,hrun⟩:=N4 hT hr (w:=w) (st:=st) (a:=ad) (fun j y hy=>⟨g j,A1w (hr' j (C9t.1 hy).1),hg' j y hy⟩) h
   exact ⟨y,c,hk,hy,by simp only [Instr.loadAt,Instr.sureAddr,Sem.run_bind,Sem.run_pure,Result.andThen_ok,hrun]⟩
  | optr e b i off =>
   simp only at h
   cases hb:st b with
   | none=>rw [hb] at h;exact h.elim
   | some bk =>
    rw [hb] at h
    obtain ⟨he,hi,h⟩:=h
    obtain ⟨cs,hok⟩:=hS b bk hb
    obtain ⟨y,c,hk,hy,hrun⟩:=N4 hT hr (w:=w) (st:=st) (a:=⟨b,i * e,none⟩) (o:=off) (fun j y hy=>by
     obtain ⟨c,h1,h2⟩:=hok.cell i j y hi hy
     refine ⟨c,?_,h2⟩
     rw [Addr.add_lit,cell_of_row w b _ cs bk.ty (0,0) hok.heap,he];exact h1) h
    refine ⟨y,c,hk,hy,?_⟩
    rw [Addr.add_lit] at hrun
    simp only [Instr.loadAt,Instr.sureAddr,Sem.run_bind,Sem.run_pure,Result.andThen_ok,hrun]
  | _=>exact h.elim
end Go.Ab
