/- Part 5 of the proof: contracts -/
import Derived.Test.YtaapofnkmpiknaaGreatPt4
import Derived.OwnWalk
import Derived.Room.AppendOwn
import Derived.Great.BuildSlice
set_option linter.unusedVariables false
set_option linter.unusedSimpArgs false
namespace Go.Ab
open Go
theorem C0f {w:World} {st:St} {v:AV} {c:Value} {ty:TypeId} {g:Nat} (hg:w.heap[g]?=some (.cells c.cells ty (0,0))) (hv:K8 w st v c) (h1:(cellsOf v).all AV.one=true) (h0:0<(cellsOf v).length) :
  A2G w st g ⟨ty,(cellsOf v).length,1,fun _=>v⟩ c.cells:=by
 obtain ⟨a1,a2,a3⟩:=A9P hv h1 h0
 refine ⟨hg,by simp [a1],fun _ _=>rfl,fun _ _=>h1,fun i j y hi hy=>?_⟩
 obtain ⟨u,hu1,hu2⟩:=a3 j y hy
 refine ⟨u,?_,hu2⟩
 have:i=0:=by simp at hi;exact hi
 subst this;simpa using hu1
def B8m (ty:TypeId) (v:AV) (st:St) (k:KK):Prop :=
 0<(cellsOf v).length∧(cellsOf v).all AV.one=true∧(k (.fptr v 0) st∨∀ b,st b=none→k (.optr (cellsOf v).length b 0 0) (upd st b ⟨ty,(cellsOf v).length,1,fun _=>v⟩))
theorem B0r {w:World} {st:St} {g:Nat} {x:L7} {cs:Array Value} (hok:A2G w st g x cs) (hst:st g=none) (hn:0<x.n):K8 w st (.fptr (x.f 0) 0) (.pointer (some ⟨g,0,none⟩)):=by
 have hex:∀ j,∃ u,j<x.e→cs[j]?=some u∧∀ y,(cellsOf (x.f 0))[j]?=some y→K8 w st y u:=by
  intro j
  by_cases hj:j<x.e
  ·have hlen:=hok.len 0 hn
   obtain ⟨u,hu1,hu2⟩:=hok.cell 0 j ((cellsOf (x.f 0))[j]'(by omega)) hn (D7k (by omega))
   refine ⟨u,fun _=>⟨by simpa using hu1,fun y hy=>?_⟩⟩
   rw [D7k (by omega)] at hy
   cases hy;exact hu2
  ·exact ⟨undef,fun h=>absurd h hj⟩
 obtain ⟨g',hg'⟩:=Classical.axiomOfChoice hex
 have:=Rep.fptr (rd:=A3N w st) (sz:=A1F w) (x.f 0) 0 ⟨g,0,none⟩ g' (fun j hj=>by
  rw [hok.len 0 hn] at hj
  rw [Addr.add_lit]
  unfold A3N
  simp only [hst]
  rw [D7o,cell_of_row w g _ cs x.ty (0,0) hok.heap]
  exact (hg' j hj).1) (fun j y hy=>(hg' j (by rw [←hok.len 0 hn];exact (D7w.1 hy).1)).2 y hy)
 rw [Addr.add_lit] at this
 exact this
theorem C4z {w:World} {st:St} {v:AV} {c:Value} {ty:TypeId} {k:KK} {a:Act} {d:Option Tmp} {next:Act→World→Prop} (hS:H9 st w) (hv:K8 w st v c) (h:B8m ty v st k) (hn:Nxt st w k a d next) :
  next (a.put d (.pointer (some ⟨w.heap.size,0,none⟩))) (w.alloc (.cells c.cells ty)):=by
 obtain ⟨h0,h1,hk⟩:=h
 have ha:=A4f.alloc w (.cells c.cells ty)
 have hfr:=hS.fresh
 rcases hk with hk | hk
 ·have hb:=C0f (st:=st) (ty:=ty) (g:=w.heap.size) (heap_alloc_new w _) ((ha.evo st).rep hv) h1 h0
  exact hn _ _ _ _ hk (B0r hb hfr (by simp)) (hS.adds ha) (ha.evo st)
 have he:=Evo.owned (x:=⟨ty,(cellsOf v).length,1,fun _=>v⟩) hS ha (D7l _)
 have hb:=C0f (ty:=ty) (g:=w.heap.size) (heap_alloc_new w _) (he.rep hv) h1 h0
 refine hn _ _ _ _ (hk w.heap.size hfr) ?_ (hS.owned ha (D7l _) _ _ hb) he
 have:=Rep.optr (rd:=A3N (w.alloc (.cells c.cells ty)) (upd st w.heap.size ⟨ty,(cellsOf v).length,1,fun _=>v⟩)) (sz:=A1F (w.alloc (.cells c.cells ty))) (cellsOf v).length w.heap.size 0 0
 simpa using this
theorem C5B {P:Program} {T:H5} (hT:TOk P T) {o:Oper} {a:Act} {st:St} {w:World} {t:TypeId} {r:C0} {k:KK} {next:Act→World→Prop} {Q:Exit→Act→World→Prop}
  (ho:o.op=.alloc t) (hr:T t=some r) (hS:H9 st w) (h:B8m t (I1 r.zero) st k) (hn:Nxt st w k a o.dst next):o.wp P a w next Q:=by
 have:=C4z hS (B1y _ _ r.zero) h hn
 unfold Oper.wp
 simp only [execOp,ho,Instr.alloc,Sem.run_bind,TOk.zero hT hr w,Result.andThen_ok,newVar,newRow,run_newObj,Sem.run_pure,Oper.upon]
 exact this
theorem D0j {P:Program} {o:Oper} {A:List AV} {a:Act} {st:St} {w:World} {t:TypeId} {x:Operand} {k:KK} {next:Act→World→Prop} {Q:Exit→Act→World→Prop}
  (ho:o.op=.box t x) (hA:Q0 w st A a) (hS:H9 st w) (h:B8m t (ev A x) st k) (hn:Nxt st w k a o.dst next):o.wp P a w next Q:=by
 have:=C4z hS (I2 hA x) h hn
 unfold Oper.wp
 simp only [execOp,ho,Instr.box,Sem.run_bind,Result.andThen_ok,newVar,newRow,run_newObj,Sem.run_pure,Oper.upon]
 exact this
def A5I (place:Nat→Option (Nat×Nat)) (cells:List AV):List (Nat×AV)→Option (List AV)
 | []=>some cells
 | (i,v)::rest =>
  match place i with
  | none=>none
  | some (off,size) =>
   if (cellsOf v).length≠size∨off+size>cells.length∨(cellsOf v).all AV.one=false∨size=0 then none
   else A5I place (cells.take off++cellsOf v++cells.drop (off+size)) rest
theorem C1B (us:List Value):∀ (off:Nat) (j0:Nat) (cells:Array Value),off+j0+us.length≤cells.size →
  ((us.zipIdx j0).foldl (fun cs (p:Value×Nat)=>cs.setIfInBounds (off+p.2) p.1) cells).toList=cells.toList.take (off+j0)++us++cells.toList.drop (off+j0+us.length):=by
 induction us with
 | nil=>intro off j0 cells h;simp
 | cons u us ih =>
  intro off j0 cells h
  simp only [List.zipIdx_cons,D8o]
  simp only [D7N] at h
  rw [ih off (j0+1) _ (by simp;omega)]
  simp only [Array.toList_setIfInBounds]
  have e1:(cells.toList.set (off+j0) u).take (off+(j0+1))=cells.toList.take (off+j0)++[u]:=by
   rw [show off+(j0+1)=(off+j0)+1 from by omega,D9i (by simp;omega),List.take_set_of_le (D7l _)]
   simp
  have e2:(cells.toList.set (off+j0) u).drop (off+(j0+1)+us.length)=cells.toList.drop (off+j0+(u::us).length):=by
   rw [List.drop_set_of_lt (by omega)];congr 1;simp;omega
  rw [e1,e2];simp
theorem B0Z {w:World} {st:St} {place:Nat→Option (Nat×Nat)}:∀ (ps:List (Nat×AV)) (qs:List (Nat×Value)) (cells:List AV) (us:Array Value) (out:List AV),
  ps.length=qs.length→(∀ (j:Nat) p q,ps[j]?=some p→qs[j]?=some q→p.1=q.1∧K8 w st p.2 q.2)→cells.length=us.size→(∀ (j:Nat) y c,cells[j]?=some y→us[j]?=some c→K8 w st y c) →
  A5I place cells ps=some out→∃ vs,Instr.fill place us qs=some vs∧out.length=vs.size∧∀ (j:Nat) y c,out[j]?=some y→vs[j]?=some c→K8 w st y c
 | [],qs,cells,us,out,hl,hp,hc,hr,h=>by
  cases qs with
  | nil=>simp only [A5I,D9n] at h;subst h;exact ⟨us,rfl,hc,hr⟩
  | cons q qs=>simp at hl
 | (i,v)::ps,qs,cells,us,out,hl,hp,hc,hr,h=>by
  cases qs with
  | nil=>simp at hl
  | cons q qs =>
   obtain ⟨i',c⟩:=q
   obtain ⟨e1,e2⟩:=hp 0 (i,v) (i',c) rfl rfl
   simp only at e1 e2
   subst e1
   simp only [A5I] at h
   cases hpl:place i with
   | none=>rw [hpl] at h;cases h
   | some os =>
    obtain ⟨off,size⟩:=os
    rw [hpl] at h
    simp only at h
    split at h
    ·cases h
    ·rename_i hcond
     simp only [not_or,Decidable.not_not,D9y] at hcond
     obtain ⟨hlen,hroom,hone,hsz⟩:=hcond
     obtain ⟨u1,u2,u3⟩:=A9P e2 hone (by omega)
     have hfold:=C1B c.cells.toList off 0 us (by simp [u1,hlen];omega)
     simp only [D9v] at hfold
     have hz:(Array.foldl (fun cs (x:Value×Nat)=>cs.setIfInBounds (off+x.2) x.1) us c.cells.zipIdx).toList=us.toList.take off++c.cells.toList++us.toList.drop (off+c.cells.toList.length):=by
      rw [←Array.foldl_toList,Array.toList_zipIdx];exact hfold
     obtain ⟨vs,h1,h2,h3⟩:=B0Z ps qs _ (Array.foldl (fun cs (x:Value×Nat)=>cs.setIfInBounds (off+x.2) x.1) us c.cells.zipIdx) out (by simpa using hl) (fun j p q h1 h2=>hp (j+1) p q (by simpa using h1) (by simpa using h2))
      (by rw [←Array.length_toList,hz];simp [u1,hlen];omega)
      (fun j y d hy hd=>by
       rw [←D7T,hz] at hd
       rcases D8E j off with hj | hj
       ·rw [D8z,D7B (by simp;omega),D7r hj] at hy hd
        exact hr j y d hy (by simpa using hd)
       ·rcases D8E j (off+size) with hj2 | hj2
        ·rw [D8z,D7A (by simp;omega),D7B (by simp;omega)] at hy hd
         obtain ⟨u,hu1,hu2⟩:=u3 _ y hy
         have e3:min off us.size=min off cells.length:=by omega
         simp only [D7n,Array.length_toList,D7T] at hd hu1
         rw [e3] at hd
         rw [hu1] at hd;cases hd;exact hu2
        ·rw [D7A (by simp;omega),D8J] at hy hd
         refine hr _ y d hy ?_
         rw [←hd,D7T]
         congr 1;simp [u1,hlen];omega) h
     refine ⟨vs,?_,h2,h3⟩
     simp only [Instr.fill,hpl]
     rw [if_neg (by simp [u1,hlen];omega)]
     exact h1
def places (T:H5):List Field→Option (List (Nat×Nat))
 | []=>some []
 | f::fs=>match T f.type,places T fs with
  | some q,some r=>some ((f.offset,q.size)::r)
  | _,_=>none
theorem B4o {P:Program} {T:H5} (hT:TOk P T):∀ (fs:List Field) (pl:List (Nat×Nat)),places T fs=some pl→fs.mapM (fun f=>(P.info? f.type).map fun i=>(f.offset,i.size))=some pl
 | [],pl,h=>by simp [places] at h;subst h;simp
 | f::fs,pl,h=>by
  simp only [places] at h
  split at h
  case h_2=>cases h
  rename_i q r hq hr
  cases h
  obtain ⟨_,i,hi,hs,_⟩:=hT _ _ hq
  simp [List.mapM_cons,hi,hs,B4o hT fs r hr]
def A7J (T:H5) (t:TypeId) (ps:List (Nat×AV)) (k:AV→Prop):Prop :=
 match T t with
 | none=>False
 | some r=>match r.desc with
  | .struct fs=>match places T fs.toList with
   | none=>False
   | some pl=>match A5I (fun i=>pl[i]?) (cellsOf (I1 r.zero)) ps with
    | some out=>k (.agg out)
    | none=>False
  | .array n el=>match T el with
   | none=>False
   | some q=>match A5I (fun i=>some (i * q.size,q.size)) (cellsOf (I1 r.zero)) ps with
    | some out=>k (.agg out)
    | none=>False
  | _=>False
def evP (A:List AV) (ps:Array (Nat×Operand)):List (Nat×AV):=ps.toList.map fun p=>(p.1,ev A p.2)
theorem C3Y {w:World} {st:St} {A:List AV} {a:Act} (hA:Q0 w st A a) (ps:Array (Nat×Operand)) :
  (evP A ps).length=(ps.map fun (i,x)=>(i,a.eval x)).toList.length∧∀ (j:Nat) p q,(evP A ps)[j]?=some p→(ps.map fun (i,x)=>(i,a.eval x)).toList[j]?=some q→p.1=q.1∧K8 w st p.2 q.2:=by
 refine ⟨by simp [evP],fun j p q hp hq=>?_⟩
 simp only [evP,D8a,Array.toList_map,D7T] at hp hq
 cases hj:ps[j]? with
 | none=>rw [hj] at hp;cases hp
 | some x =>
  rw [hj] at hp hq
  cases hp;cases hq
  exact ⟨rfl,I2 hA x.2⟩
theorem A5j {rd:Addr→Option Value} {sz:Nat→Nat} {z:Value} (h:(cellsOf (I1 z)).length=z.cells.size):∀ (j:Nat) y c,(cellsOf (I1 z))[j]?=some y→z.cells[j]?=some c→Rep rd sz y c:=by
 intro j y c hy hc
 have hr:=B1y rd sz z
 generalize I1 z=v at *
 by_cases hv:v.one=true
 ·obtain ⟨_,e2,e3⟩:=hr.one hv
  rw [e2] at hc
  rw [e3] at hy
  cases j with
  | zero=>simp at hy hc;subst hy;subst hc;exact hr
  | succ j=>simp at hy
 ·cases hr with
  | agg cs vs hl hg=>exact hg j y c hy hc
  | tuple cs vs hl hg=>simp [cellsOf] at hy
  | junk c=>simp [cellsOf] at hy
  | _=>exact absurd rfl hv
def zOk (r:C0):Prop:=(cellsOf (I1 r.zero)).length=r.zero.cells.size
theorem C5D {P:Program} {T:H5} (hT:TOk P T) (hz:∀ t r,T t=some r→zOk r) {o:Oper} {A:List AV} {a:Act} {st:St} {w:World} {t:TypeId} {ps:Array (Nat×Operand)} {k:KK} {next:Act→World→Prop} {Q:Exit→Act→World→Prop}
  (ho:o.op=.build t ps) (hA:Q0 w st A a) (hS:H9 st w) (h:A7J T t (evP A ps) (fun v=>k v st)) (hn:Nxt st w k a o.dst next):o.wp P a w next Q:=by
 obtain ⟨hl,hp⟩:=C3Y hA ps
 suffices hmain:∃ out vs,k (.agg out) st∧P.built t (ps.map fun (i,x)=>(i,a.eval x)).toList=some vs∧K8 w st (.agg out) (.agg vs) by
  obtain ⟨out,vs,h1,h2,h3⟩:=hmain
  refine I8 (c:=.agg vs) ?_ hS h3 h1 hn
  have hr:=run_build (P:=P) w t (ps.map fun (i,x)=>(i,a.eval x)) vs h2
  simp only [execOp,ho,Sem.run_bind,hr,Result.andThen_ok,Sem.run_pure]
 unfold A7J at h
 split at h
 ·exact h.elim
 rename_i r hr
 obtain ⟨hu,i,hi,_,_,hiz⟩:=hT t r hr
 split at h
 ·rename_i fs hd
  split at h
  ·exact h.elim
  rename_i pl hpl
  split at h
  case h_2=>exact h.elim
  rename_i out hout
  obtain ⟨vs,h1,h2,h3⟩:=B0Z _ _ _ r.zero.cells out hl hp (hz t r hr) (A5j (hz t r hr)) hout
  refine ⟨out,vs,h,?_,.agg _ _ h2 h3⟩
  rw [hd] at hu
  unfold Program.built
  simp only [hi,hu,hiz,B4o hT _ _ hpl]
  rw [show (fun x=>pl.toArray[x]?)=fun i=>pl[i]? from funext fun x=>by simp]
  exact h1
 ·rename_i n el hd
  split at h
  ·exact h.elim
  rename_i q hq
  obtain ⟨_,i',hi',hs',_⟩:=hT el q hq
  split at h
  case h_2=>exact h.elim
  rename_i out hout
  obtain ⟨vs,h1,h2,h3⟩:=B0Z _ _ _ r.zero.cells out hl hp (hz t r hr) (A5j (hz t r hr)) hout
  refine ⟨out,vs,h,?_,.agg _ _ h2 h3⟩
  rw [hd] at hu
  unfold Program.built
  simp only [hi,hu,hiz,hi',hs']
  exact h1
 ·exact h.elim
def A1z (agg:Bool) (e len:Nat) (out:List AV):List AV:=(List.range len).map fun i=>if agg then .agg ((out.drop (i * e)).take e) else out.getD i .junk
theorem A5s {agg:Bool} {e len:Nat} {out:List AV} (hlen:out.length=len * e) (hone:out.all AV.one=true) (h1:agg=false→e=1) {i:Nat} (hi:i<len) :
  (cellsOf ((A1z agg e len out).getD i .junk)).length=e∧(cellsOf ((A1z agg e len out).getD i .junk)).all AV.one=true∧∀ j:Nat,j<e→(cellsOf ((A1z agg e len out).getD i .junk))[j]?=out[i * e+j]?:=by
 have hroom:i * e+e≤len * e:=by
  have:(i+1) * e≤len * e:=D8c _ hi
  rw [D9o] at this;omega
 have hg:(A1z agg e len out).getD i .junk=if agg then .agg ((out.drop (i * e)).take e) else out.getD i .junk:=by
  simp [A1z,hi]
 rw [hg]
 simp only [D7s] at hone
 cases agg with
 | true =>
  refine ⟨by simp [cellsOf];omega,?_,fun j hj=>?_⟩
  ·simp only [if_true,cellsOf,D7s]
   intro z hz
   exact hone _ (List.mem_of_mem_drop (E0a hz))
  ·simp only [if_true,cellsOf]
   rw [D7r hj,D8J]
 | false =>
  have he:=h1 rfl
  subst he
  have hlt:i<out.length:=by omega
  have hv:out.getD i .junk=out[i]:=by simp [D7k hlt]
  have ho:=hone _ (D8y hlt)
  have hc:cellsOf out[i]=[out[i]]:=by
   revert ho;cases out[i]<;>simp [AV.one,cellsOf]
  simp only [D8Y,D9L,hv,hc]
  refine ⟨rfl,by simp [ho],fun j hj=>?_⟩
  obtain rfl:j=0:=by omega
  simp [D7k hlt]
def A1I (T:H5) (t:TypeId) (len:Nat) (ps:List (Nat×AV)) (st:St) (k:KK):Prop :=
 match T t with
 | none=>False
 | some r=>match r.desc with
  | .slice el=>match T el with
   | none=>False
   | some q=>0<len * q.size∧len * q.size≤16777216∧q.zero.cells.size=q.size∧(q.agg=false→q.size=1) ∧
    match A5I (fun i=>some (i * q.size,q.size)) ((List.range (len * q.size)).map fun i=>(cellsOf (I1 q.zero)).getD (i % q.size) .junk) ps with
    | some out=>out.all AV.one=true∧(k (.arr q.size len (fun i=>(A1z q.agg q.size len out).getD i .junk)) st ∨
      ∀ b,st b=none→k (.own q.size b 0 len) (upd st b ⟨el,q.size,len,fun i=>(A1z q.agg q.size len out).getD i .junk⟩))
    | none=>False
  | _=>False
theorem A8r {place:Nat→Option (Nat×Nat)}:∀ (ps:List (Nat×AV)) (cells out:List AV),A5I place cells ps=some out→out.length=cells.length
 | [],cells,out,h=>by simp only [A5I,D9n] at h;rw [h]
 | (i,v)::ps,cells,out,h=>by
  simp only [A5I] at h
  split at h
  ·cases h
  ·split at h
   ·cases h
   ·rename_i hcond
    simp only [not_or,Decidable.not_not,D9y] at hcond
    rw [A8r ps _ out h];simp;omega
theorem C5o {w:World} {st:St} {g:Nat} {ty:TypeId} {agg:Bool} {e len:Nat} {out:List AV} {vs:Array Value} (hg:w.heap[g]?=some (.cells vs ty (0,0))) (hlen:out.length=len * e) (hsz:len * e≤vs.size) (hone:out.all AV.one=true)
  (h1:agg=false→e=1) (hr:∀ (j:Nat) y c,out[j]?=some y→vs[j]?=some c→K8 w st y c) :
  A2G w st g ⟨ty,e,len,fun i=>(A1z agg e len out).getD i .junk⟩ vs:=by
 refine ⟨hg,hsz,fun i hi=>(A5s hlen hone h1 hi).1,fun i hi=>(A5s hlen hone h1 hi).2.1,fun i j y hi hy=>?_⟩
 obtain ⟨a1,a2,a3⟩:=A5s hlen hone h1 hi
 have hj:j<e:=by rw [←a1];exact (D7w.1 hy).1
 have hpos:=A0d hi hj
 have hy':out[i * e+j]?=some y:=by rw [←a3 j hj];exact hy
 exact ⟨vs[i * e+j],D7x (by simp only at hpos ⊢;omega),hr _ _ _ hy' (D7x (by simp only at hpos ⊢;omega))⟩
theorem B1x {w:World} {st:St} {g:Nat} {x:L7} {cs:Array Value} (hok:A2G w st g x cs) (hst:st g=none) (off n:Nat) (hn:off+n≤x.n) (c:Nat) (hc:n≤c) :
  K8 w st (.arr x.e n (fun i=>x.f (off+i))) (.slice (some ⟨g,off * x.e,none⟩) n c):=by
 have hex:∀ i j,∃ u,i<n→j<x.e→cs[(off+i) * x.e+j]?=some u∧∀ y,(cellsOf (x.f (off+i)))[j]?=some y→K8 w st y u:=by
  intro i j
  by_cases hij:i<n∧j<x.e
  ·obtain ⟨hi,hj⟩:=hij
   have hlen:=hok.len (off+i) (by omega)
   obtain ⟨u,hu1,hu2⟩:=hok.cell (off+i) j ((cellsOf (x.f (off+i)))[j]'(by omega)) (by omega) (D7k (by omega))
   refine ⟨u,fun _ _=>⟨hu1,fun y hy=>?_⟩⟩
   rw [D7k (by omega)] at hy
   cases hy;exact hu2
  ·exact ⟨undef,fun h1 h2=>absurd ⟨h1,h2⟩ hij⟩
 have hex2:=fun i=>Classical.axiomOfChoice (hex i)
 obtain ⟨g',hg'⟩:=Classical.axiomOfChoice hex2
 refine .arr _ _ _ _ _ g' hc (fun _=>⟨_,rfl⟩) (fun i hi=>hok.len _ (by omega)) (fun i hi=>hok.one _ (by omega)) (fun a ha i j hi hj=>?_) (fun i j y hi hy=>?_)
 ·cases ha
  rw [Addr.add_lit]
  unfold A3N
  simp only [hst]
  rw [cell_of_row w g _ cs x.ty (0,0) hok.heap,←D9M,←D9o]
  exact (hg' i j hi hj).1
 ·have hj:j<x.e:=by rw [←hok.len (off+i) (by omega)];exact (D7w.1 hy).1
  exact (hg' i j hi hj).2 y hy
theorem B3F {P:Program} {T:H5} (hT:TOk P T) (hz:∀ t r,T t=some r→zOk r) {o:Oper} {A:List AV} {a:Act} {st:St} {w:World} {t:TypeId} {len:Nat} {ps:Array (Nat×Operand)} {k:KK} {next:Act→World→Prop} {Q:Exit→Act→World→Prop}
  (ho:o.op=.buildSlice t len ps) (hA:Q0 w st A a) (hS:H9 st w) (h:A1I T t len (evP A ps) st k) (hn:Nxt st w k a o.dst next):o.wp P a w next Q:=by
 obtain ⟨hl,hp⟩:=C3Y hA ps
 unfold A1I at h
 split at h
 ·exact h.elim
 rename_i r hr
 obtain ⟨hu,_⟩:=hT t r hr
 split at h
 case h_2=>exact h.elim
 rename_i el hd
 rw [hd] at hu
 split at h
 ·exact h.elim
 rename_i q hq
 obtain ⟨_,i,hi,his,_,hiz⟩:=hT el q hq
 obtain ⟨hpos,hsmall,hzs,h1,h⟩:=h
 split at h
 case h_2=>exact h.elim
 rename_i out hout
 obtain ⟨hone,hk⟩:=h
 have hq0:0<q.size:=Nat.pos_of_ne_zero fun e=>by rw [e] at hpos;simp at hpos
 have hzl:(cellsOf (I1 q.zero)).length=q.size:=by rw [hz el q hq,hzs]
 obtain ⟨vs,f1,f2,f3⟩:=B0Z (w:=w) (st:=st) _ _ _ ((Array.range (len * q.size)).map (q.zero.cells[· % q.zero.cells.size]!)) out hl hp (by simp) (fun j y c hy hc=>by
  have hj:j<len * q.size:=by have:=(D7w.1 hy).1;simpa using this
  have hm:j % q.size<q.size:=Nat.mod_lt _ hq0
  simp only [D8a,D8C hj,D9j,D9n] at hy
  simp [hj] at hc
  subst hy;subst hc
  refine A5j (hz el q hq) (j % q.size) _ _ ?_ ?_
  ·rw [D7c,D7k (by omega)];rfl
  ·rw [hzs];simp [getElem!_def,D7x (show j % q.size<q.zero.cells.size by omega)]) hout
 have hol:out.length=len * q.size:=by rw [A8r _ _ _ hout];simp
 have hrun:=run_buildSlice (P:=P) w t el len (ps.map fun (i,x)=>(i,a.eval x)) vs i q.zero hu hi hiz (by rw [his];omega) (by rw [his];omega) (by rw [his];exact f1)
 have hal:=A4f.alloc w (.cells vs el)
 suffices hmain:next (a.put o.dst (.slice (some ⟨w.heap.size,0,none⟩) len len)) (w.alloc (.cells vs el)) by
  unfold Oper.wp
  simp only [execOp,ho,Sem.run_bind,hrun,Result.andThen_ok,Sem.run_pure,Oper.upon]
  exact hmain
 have hvs:len * q.size≤vs.size:=by rw [←f2,hol];exact D7l _
 rcases hk with hk | hk
 ·have hok:=C5o (w:=w.alloc (.cells vs el)) (st:=st) (g:=w.heap.size) (agg:=q.agg) (heap_alloc_new w _) hol hvs hone h1 (fun j y c hy hc=>(hal.evo st).rep (f3 j y c hy hc))
  refine hn _ _ _ _ hk ?_ (hS.adds hal) (hal.evo st)
  have:=B1x hok hS.fresh 0 len (by simp) len (D7l _)
  simpa using this
 ·have he:=Evo.owned (x:=⟨el,q.size,len,fun i=>(A1z q.agg q.size len out).getD i .junk⟩) hS hal (D7l _)
  have hok:=C5o (w:=w.alloc (.cells vs el)) (st:=upd st w.heap.size ⟨el,q.size,len,fun i=>(A1z q.agg q.size len out).getD i .junk⟩) (g:=w.heap.size) (agg:=q.agg) (heap_alloc_new w _) hol hvs hone h1 (fun j y c hy hc=>he.rep (f3 j y c hy hc))
  refine hn _ _ _ _ (hk _ hS.fresh) ?_ (hS.owned hal (D7l _) _ _ hok) he
  have:K8 (w.alloc (.cells vs el)) (upd st w.heap.size ⟨el,q.size,len,fun i=>(A1z q.agg q.size len out).getD i .junk⟩) (.own q.size w.heap.size 0 len) (.slice (some ⟨w.heap.size,0 * q.size,none⟩) len len) :=
   .own _ _ _ _ _ (D7l _) (by unfold A1F;rw [heap_alloc_new];simpa using hvs)
  simpa using this
def B6k (T:H5) (t:TypeId) (ps:List (Nat×AV)) (st:St) (k:KK):Prop :=
 match T t with
 | none=>False
 | some r=>match r.desc with
  | .slice el=>match T el with
   | none=>False
   | some _=>match ps with
    | []=>k .emp st
    | _::_=>False
  | _=>False
theorem C7S {P:Program} {T:H5} (hT:TOk P T) {o:Oper} {A:List AV} {a:Act} {st:St} {w:World} {t:TypeId} {ps:Array (Nat×Operand)} {k:KK} {next:Act→World→Prop} {Q:Exit→Act→World→Prop}
  (ho:o.op=.buildSlice t 0 ps) (hA:Q0 w st A a) (hS:H9 st w) (h:B6k T t (evP A ps) st k) (hn:Nxt st w k a o.dst next):o.wp P a w next Q:=by
 unfold B6k at h
 split at h
 ·exact h.elim
 rename_i r hr
 obtain ⟨hu,_⟩:=hT t r hr
 split at h
 case h_2=>exact h.elim
 rename_i el hd
 rw [hd] at hu
 split at h
 ·exact h.elim
 rename_i q hq
 obtain ⟨_,i,hi,his,_,hiz⟩:=hT el q hq
 split at h
 case h_2=>exact h.elim
 rename_i hps
 have hp0:ps=#[]:=by
  unfold evP at hps
  rw [List.map_eq_nil_iff] at hps
  exact Array.toList_eq_nil_iff.1 hps
 subst hp0
 have hrun:(Instr.buildSlice t 0 #[]).run P w=.ok (.slice (some ⟨w.heap.size,0,none⟩) 0 0) (w.alloc (.cells #[] el)):=by
  simp [Instr.buildSlice,run_underlying hu,sizeOf,typeInfo,hi,Instr.fill,newRow]
  have e:∀ f:Nat→Value,Array.map f (Array.range 0)=#[]:=fun f=>Array.eq_empty_of_size_eq_zero (by simp)
  rw [e]
 have hal:=A4f.alloc w (.cells #[] el)
 unfold Oper.wp
 simp only [execOp,ho,Sem.run_bind,Array.map_empty,hrun,Result.andThen_ok,Sem.run_pure,Oper.upon]
 exact hn _ _ _ _ h (.emp _) (hS.adds hal) (hal.evo st)
def B1r (T:H5) (t:TypeId) (l c:AV) (st:St) (k:KK):Prop :=
 match T t with
 | none=>False
 | some r=>match r.desc with
  | .slice el=>match T el with
   | none=>False
   | some q=>match l,c with
    | .int _ n,.int _ m=>(n=0∧0≤m∧(q.bytes:Int) * m≤281474976710656∧m≤9223372036854775807∧q.zero.cells.size=q.size∧(cellsOf (I1 q.zero)).all AV.one=true ∧
     ∀ b,st b=none→k (.cown q.size b 0 m.toNat) (upd st b ⟨el,q.size,m.toNat,fun _=>I1 q.zero⟩))∨n=m∧0≤n∧(q.bytes:Int) * n≤281474976710656∧n≤9223372036854775807∧q.zero.cells.size=q.size∧(cellsOf (I1 q.zero)).all AV.one=true ∧
     ∀ b,st b=none→k (.own q.size b 0 n.toNat) (upd st b ⟨el,q.size,n.toNat,fun _=>I1 q.zero⟩)
    | _,_=>False
  | _=>False
theorem B5L {P:Program} {T:H5} (hT:TOk P T) (hz:∀ t r,T t=some r→zOk r) {o:Oper} {A:List AV} {a:Act} {st:St} {w:World} {t:TypeId} {l c:Operand} {k:KK} {next:Act→World→Prop} {Q:Exit→Act→World→Prop}
  (ho:o.op=.makeSlice t l c) (hA:Q0 w st A a) (hS:H9 st w) (h:B1r T t (ev A l) (ev A c) st k) (hn:Nxt st w k a o.dst next):o.wp P a w next Q:=by
 unfold B1r at h
 split at h
 ·exact h.elim
 rename_i r hr
 obtain ⟨hu,_⟩:=hT t r hr
 split at h
 case h_2=>exact h.elim
 rename_i el hd
 rw [hd] at hu
 split at h
 ·exact h.elim
 rename_i q hq
 obtain ⟨_,i,hi,his,hib,hiz⟩:=hT el q hq
 have hx:=I2 hA l
 have hy:=I2 hA c
 split at h
 case h_2=>exact h.elim
 rename_i kl n kc m hl hc
 rw [hl] at hx
 rw [hc] at hy
 generalize hlv:a.eval l=lv at hx
 generalize hcv:a.eval c=cv at hy
 cases hx
 cases hy
 have mk:∀ (m:Int),0≤m→q.zero.cells.size=q.size→(cellsOf (I1 q.zero)).all AV.one=true →
   H9 (upd st w.heap.size ⟨el,q.size,m.toNat,fun _=>I1 q.zero⟩) (w.alloc (.cells (madeCells q.zero.cells (m.toNat * i.size)) el))∧Evo st w (upd st w.heap.size ⟨el,q.size,m.toNat,fun _=>I1 q.zero⟩) (w.alloc (.cells (madeCells q.zero.cells (m.toNat * i.size)) el)) ∧
   A1F (w.alloc (.cells (madeCells q.zero.cells (m.toNat * i.size)) el)) w.heap.size=m.toNat * q.size:=by
  intro n h0 hzs hone
  have hal:=A4f.alloc w (.cells (madeCells q.zero.cells (n.toNat * i.size)) el)
  have hzl:(cellsOf (I1 q.zero)).length=q.size:=by rw [hz el q hq,hzs]
  have he:=Evo.owned (x:=⟨el,q.size,n.toNat,fun _=>I1 q.zero⟩) hS hal (D7l _)
  have hok:A2G (w.alloc (.cells (madeCells q.zero.cells (n.toNat * i.size)) el)) (upd st w.heap.size ⟨el,q.size,n.toNat,fun _=>I1 q.zero⟩) w.heap.size ⟨el,q.size,n.toNat,fun _=>I1 q.zero⟩ (madeCells q.zero.cells (n.toNat * i.size)):=by
   refine ⟨heap_alloc_new w _,by simp [size_madeCells,his],fun _ _=>hzl,fun _ _=>hone,fun i' j y hi' hy=>?_⟩
   have hj:j<q.size:=by rw [←hzl];exact (D7w.1 hy).1
   have hpos:=A0d hi' hj
   have hmod:(i' * q.size+j) % q.size=j:=by rw [Nat.mul_comm,Nat.mul_add_mod];exact E0c hj
   refine ⟨q.zero.cells[j]'(by omega),?_,A5j (hz el q hq) j y _ hy (D7x (by omega))⟩
   simp only [madeCells]
   rw [Array.getElem?_map,Array.getElem?_range,if_pos (by rw [his];simpa using hpos)]
   simp only [D9j,hzs,hmod]
   rw [getElem!_pos q.zero.cells j (by omega)]
  exact ⟨hS.owned hal (D7l _) _ _ hok,he,by unfold A1F;rw [heap_alloc_new];simp [size_madeCells,his]⟩
 rcases h with ⟨rfl,h0,hbytes,h63,hzs,hone,hk⟩ | ⟨rfl,h0,hbytes,h63,hzs,hone,hk⟩
 ·have hrun:=run_make (P:=P) w t el i q.zero hu hi hiz kl kc 0 m (D7L _) h0 (by rw [hib];exact hbytes) h63
  obtain ⟨r1,r2,r3⟩:=mk m h0 hzs hone
  unfold Oper.wp
  simp only [execOp,ho,Sem.run_bind,hlv,hcv,hrun,Result.andThen_ok,Sem.run_pure,Oper.upon]
  exact hn _ _ _ _ (hk _ hS.fresh) (.cown _ _ _ _ (D7C _) (by rw [r3];exact D7l _)) r1 r2
 ·have hrun:=run_make (P:=P) w t el i q.zero hu hi hiz kl kc n n h0 (D7L _) (by rw [hib];exact hbytes) h63
  obtain ⟨r1,r2,r3⟩:=mk n h0 hzs hone
  unfold Oper.wp
  simp only [execOp,ho,Sem.run_bind,hlv,hcv,hrun,Result.andThen_ok,Sem.run_pure,Oper.upon]
  refine hn _ _ _ _ (hk _ hS.fresh) ?_ r1 r2
  have:K8 (w.alloc (.cells (madeCells q.zero.cells (n.toNat * i.size)) el)) (upd st w.heap.size ⟨el,q.size,n.toNat,fun _=>I1 q.zero⟩) (.own q.size w.heap.size 0 n.toNat) (.slice (some ⟨w.heap.size,0 * q.size,none⟩) n.toNat n.toNat) :=
   .own _ _ _ _ _ (D7l _) (by rw [r3,D7o];exact D7l _)
  simpa using this
end Go.Ab
