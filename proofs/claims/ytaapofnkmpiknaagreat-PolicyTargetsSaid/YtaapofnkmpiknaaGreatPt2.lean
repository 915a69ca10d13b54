/- Part 2 of the proof: contracts -/
import Derived.Test.YtaapofnkmpiknaaGreatPt1
set_option linter.unusedVariables false
set_option linter.unusedSimpArgs false
namespace Go.Ab
open Go
theorem A4N (rd:Addr→Option Value) (sz:Nat→Nat):Rep rd sz (.tuple []) undef:=.tuple [] #[] rfl (fun j y c h=>by simp at h)
def Q8 (v:AV) (r:Nat) (cs:List AV):AV :=
 match v with
 | .agg ds=>.agg (ds.take r++cs++ds.drop (r+cs.length))
 | _=>cs.headD .junk
def I6 (f:Nat→AV) (i:Nat) (v:AV):Nat→AV:=fun j=>if j=i then v else f j
def A7M (T:H5) (t:TypeId) (p v:AV) (st:St) (k:KK):Prop :=
 match T t with
 | none=>False
 | some r =>
  match p with
  | .optr e b i o=>match st b with
   | some x=>e=x.e∧i<x.n∧(cellsOf v).length=r.size∧(cellsOf v).all AV.one=true∧o+r.size≤x.e∧k (.tuple []) (upd st b { x with f:=I6 x.f i (Q8 (x.f i) o (cellsOf v)) })
   | none=>False
  | _=>False
theorem A6E {v:AV} {r:Nat} {cs:List AV} (h:r+cs.length≤(cellsOf v).length) (h1:cs.all AV.one=true) (h2:0<cs.length) :
  cellsOf (Q8 v r cs)=(cellsOf v).take r++cs++(cellsOf v).drop (r+cs.length):=by
 have single:(cellsOf v).length=1→cellsOf (cs.headD .junk)=(cellsOf v).take r++cs++(cellsOf v).drop (r+cs.length):=fun hv=>by
  have hr:r=0:=by omega
  have hc:cs.length=1:=by omega
  obtain ⟨c,rfl⟩:=List.length_eq_one_iff.1 hc
  subst hr
  have:c.one=true:=by simpa using h1
  rw [List.drop_eq_nil_of_le (by simp [hv])]
  cases c<;>simp_all [cellsOf,AV.one]
 cases v<;>first | rfl | (simp only [Q8];exact single rfl) | (simp [cellsOf] at h;simp [h] at h2)
theorem A9P {w:World} {st:St} {v:AV} {c:Value} (h:K8 w st v c) (h1:(cellsOf v).all AV.one=true) (h2:0<(cellsOf v).length) :
  c.cells.size=(cellsOf v).length∧(∀ u∈c.cells.toList,u.oneCell'=true)∧∀ (j:Nat) (y:AV),(cellsOf v)[j]?=some y→∃ u,c.cells[j]?=some u∧K8 w st y u:=by
 by_cases hv:v.one=true
 ·obtain ⟨e1,e2,e3⟩:=h.one hv
  rw [e2,e3]
  refine ⟨rfl,by simp [e1],fun j y hy=>?_⟩
  cases j with
  | zero=>simp at hy;subst hy;exact ⟨c,by simp,h⟩
  | succ j=>simp at hy
 ·cases h with
  | agg cs vs hl hg =>
   refine ⟨hl.symm,fun u hu=>?_,fun j y hy=>?_⟩
   ·obtain ⟨j,hj,rfl⟩:=D9d hu
    have hj':j<cs.length:=by rw [hl];simpa [Value.cells] using hj
    have hone:(cs[j]).one=true:=by
     simp only [cellsOf,D7s] at h1
     exact h1 _ (D8y hj')
    exact (Rep.one (hg j cs[j] _ (D7k hj') (by simp [Value.cells])) hone).1
   ·have hj:j<vs.size:=by rw [←hl];exact (D7w.1 hy).1
    exact ⟨vs[j],D7x hj,hg j y _ hy (D7x hj)⟩
  | tuple cs vs hl hg=>simp [cellsOf] at h2
  | junk c=>simp [cellsOf] at h2
  | _=>exact absurd rfl hv
theorem A0d {i n e o:Nat} (hi:i<n) (ho:o<e):i * e+o<n * e:=by
 have:(i+1) * e≤n * e:=D8c _ hi
 rw [D9o] at this;omega
theorem C9u {i i' e o o':Nat} (ho:o<e) (ho':o'<e) (h:i * e+o=i' * e+o'):i=i'∧o=o':=by
 have h1:(i * e+o) / e=i:=by rw [Nat.mul_comm,Nat.mul_add_div (by omega),Nat.div_eq_of_lt ho];omega
 have h2:(i' * e+o') / e=i':=by rw [Nat.mul_comm,Nat.mul_add_div (by omega),Nat.div_eq_of_lt ho'];omega
 have:i=i':=by rw [←h1,←h2,h]
 subst this;exact ⟨rfl,by omega⟩
theorem A2G.store {w:World} {st:St} {b i o:Nat} {x:L7} {cs:Array Value} {vs:List AV} {us:List Value} (hok:A2G w st b x cs) (hb:st b=some x) (hi:i<x.n) (hlen:o+vs.length≤x.e)
  (h1:vs.all AV.one=true) (h0:0<vs.length) (hus:us.length=vs.length) (hv:∀ (j:Nat) (y:AV),vs[j]?=some y→∃ u,us[j]?=some u∧K8 w st y u) :
  A2G (w.setRow b (cs.toList.take (i * x.e+o)++us++cs.toList.drop (i * x.e+o+us.length)).toArray) (upd st b { x with f:=I6 x.f i (Q8 (x.f i) o vs) }) b { x with f:=I6 x.f i (Q8 (x.f i) o vs) }
   (cs.toList.take (i * x.e+o)++us++cs.toList.drop (i * x.e+o+us.length)).toArray:=by
 have hroom:i * x.e+o+us.length≤cs.size:=by
  have:=hok.size
  have h2:(i+1) * x.e≤x.n * x.e:=D8c _ hi
  rw [D9o] at h2;omega
 have hsz:(cs.toList.take (i * x.e+o)++us++cs.toList.drop (i * x.e+o+us.length)).length=cs.size:=by simp;omega
 have hevo:Evo st w (upd st b { x with f:=I6 x.f i (Q8 (x.f i) o vs) }) (w.setRow b (cs.toList.take (i * x.e+o)++us++cs.toList.drop (i * x.e+o+us.length)).toArray) :=
  Evo.setRow hb hok.heap (by simp;omega)
 have hlv:=hok.len i hi
 have hcells:=A6E (v:=x.f i) (r:=o) (cs:=vs) (by rw [hlv];exact hlen) h1 h0
 refine ⟨Y3 hok.heap,by simp only [List.size_toArray,hsz];exact hok.size,fun i' hi'=>?_,fun i' hi'=>?_,fun i' j y hi' hy=>?_⟩
 ·simp only [I6]
  split
  ·rename_i he;subst he;rw [hcells];simp;omega
  ·exact hok.len i' hi'
 ·simp only [I6]
  split
  ·rename_i he;subst he;rw [hcells]
   have hone:=hok.one i' hi'
   simp only [D7s] at hone h1 ⊢
   intro z hz
   simp only [D8s] at hz
   rcases hz with (hz | hz) | hz
   ·exact hone _ (E0a hz)
   ·exact h1 _ hz
   ·exact hone _ (List.mem_of_mem_drop hz)
  ·exact hok.one i' hi'
 ·simp only [List.getElem?_toArray]
  have hj:j<x.e:=by
   have h3:j<(cellsOf (I6 x.f i (Q8 (x.f i) o vs) i')).length:=(D7w.1 hy).1
   have:(cellsOf (I6 x.f i (Q8 (x.f i) o vs) i')).length=x.e:=by
    simp only [I6]
    split
    ·rename_i he;subst he;rw [hcells];simp;omega
    ·exact hok.len i' hi'
   omega
  have hpos:=A0d hi' hj
  have hold:∀ y,(cellsOf (x.f i'))[j]?=some y→(i'=i→j<o∨o+vs.length≤j)→∃ c,(cs.toList.take (i * x.e+o)++us++cs.toList.drop (i * x.e+o+us.length))[i' * x.e+j]?=some c ∧
    K8 (w.setRow b (cs.toList.take (i * x.e+o)++us++cs.toList.drop (i * x.e+o+us.length)).toArray) (upd st b { x with f:=I6 x.f i (Q8 (x.f i) o vs) }) y c:=fun y hy hout=>by
   obtain ⟨c,hc1,hc2⟩:=hok.cell i' j y hi' hy
   refine ⟨c,?_,hevo.rep hc2⟩
   rw [←hc1]
   rcases D8E (i' * x.e+j) (i * x.e+o) with hlt | hge
   ·rw [D8z,D7B (by simp;omega),D7r hlt,D7T]
   ·rcases D8E (i' * x.e+j) (i * x.e+o+us.length) with hlt2 | hge2
    ·exfalso
     have:i' * x.e+j=i * x.e+(o+(i' * x.e+j - (i * x.e+o))):=by omega
     obtain ⟨e1,e2⟩:=C9u hj (by omega) this
     have:=hout e1;omega
    ·rw [D7A (by simp;omega),D8J]
     rw [←D7T];congr 1;simp;omega
  simp only [I6] at hy
  split at hy
  ·rename_i he
   subst he
   rw [hcells] at hy
   rcases D8E j o with hjo | hjo
   ·refine hold y ?_ (fun _=>.inl hjo)
    rw [D8z,D7B (by simp;omega),D7r hjo] at hy
    exact hy
   ·rcases D8E j (o+vs.length) with hjv | hjv
    ·rw [D8z,D7A (by simp;omega),D7B (by simp;omega)] at hy
     obtain ⟨u,hu1,hu2⟩:=hv _ y hy
     refine ⟨u,?_,hevo.rep hu2⟩
     rw [D8z,D7A (by simp;omega),D7B (by simp;omega),←hu1]
     congr 1;simp;omega
    ·refine hold y ?_ (fun _=>.inr hjv)
     rw [D7A (by simp;omega),D8J] at hy
     rw [←hy];congr 1;simp;omega
  ·rename_i he
   exact hold y hy (fun e=>absurd e he)
theorem C5I {P:Program} {T:H5} (hT:TOk P T) {o:Oper} {A:List AV} {a:Act} {st:St} {w:World} {t:TypeId} {x y:Operand} {k:KK} {next:Act→World→Prop} {Q:Exit→Act→World→Prop}
  (ho:o.op=.store t x y) (hA:Q0 w st A a) (hS:H9 st w) (h:A7M T t (ev A x) (ev A y) st k) (hz:∀ r,T t=some r→0<r.size) (hn:Nxt st w k a o.dst next):o.wp P a w next Q:=by
 unfold A7M at h
 cases hr:T t with
 | none=>rw [hr] at h;exact h.elim
 | some r =>
  rw [hr] at h
  have hr0:=hz r hr
  have hx:=I2 hA x
  have hy:=I2 hA y
  generalize hp:a.eval x=p at hx
  generalize hu:a.eval y=u at hy
  generalize ev A x=q at h hx
  generalize ev A y=v at h hy
  cases hx with
  | optr e b i off =>
   simp only at h
   cases hb:st b with
   | none=>rw [hb] at h;exact h.elim
   | some bk =>
    rw [hb] at h
    obtain ⟨he,hi,hlen,hall,hfit,hk⟩:=h
    obtain ⟨cs,hok⟩:=hS b bk hb
    obtain ⟨u1,u2,u3⟩:=A9P hy hall (by omega)
    have hroom:i * bk.e+off+u.cells.toList.length≤cs.size:=by
     have:=hok.size
     have h2:(i+1) * bk.e≤bk.n * bk.e:=D8c _ hi
     rw [D9o] at h2;simp;omega
    have hst:=run_storeCells_at (P:=P) b (i * bk.e+off) bk.ty u.cells.toList 0 cs w hok.heap (by simpa using hroom) u2
    have hnew:=hok.store (us:=u.cells.toList) hb hi (by rw [hlen];exact hfit) hall (by omega) (by simp [u1]) (fun j y hy=>by simpa using u3 j y hy)
    have hsz:cs.size≤(cs.toList.take (i * bk.e+off)++u.cells.toList++cs.toList.drop (i * bk.e+off+u.cells.toList.length)).toArray.size:=by simp at hroom ⊢;omega
    unfold Oper.wp
    have hrun:(Instr.storeAt t (.pointer (some ⟨b,i * e+off,none⟩)) u).run P w=.ok () (w.setRow b (cs.toList.take (i * bk.e+off)++u.cells.toList++cs.toList.drop (i * bk.e+off+u.cells.toList.length)).toArray):=by
     have hsz2:u.cells.size=r.size:=by rw [u1,hlen]
     simp only [D9v] at hst
     simp only [Instr.storeAt,Instr.sureAddr,storeVar,Sem.run_bind,Sem.run_pure,Result.andThen_ok,TOk.sizeOf hT hr w,hsz2,ne_eq,not_true_eq_false,D9L]
     rw [he];exact hst
    simp only [execOp,ho,Sem.run_bind,hp,hu,hrun,Result.andThen_ok,Sem.run_pure,Oper.upon]
    exact hn _ _ _ _ hk (A4N _ _) (hS.setRow hb hok.heap hsz hnew) (Evo.setRow hb hok.heap hsz)
  | _=>exact h.elim
end Go.Ab
