/- Part 5 of the proof: contracts of the functions that the law reaches -/
import Derived.Test.YtaapofnkmpiknaaGreatPl4
import Derived.OwnWalk
import Derived.Room.AppendOwn
import Derived.Great.BuildSlice
set_option linter.unusedVariables false
set_option linter.unusedSimpArgs false
namespace Go.Ab
open Go
theorem B9I {w:World} {st:St} {v:AV} {c:Value} {ty:TypeId} {g:Nat} (hg:w.heap[g]?=some (.cells c.cells ty (0,0))) (hv:M0 w st v c) (h1:(cellsOf v).all AV.one=true) (h0:0<(cellsOf v).length) :
  A2p w st g ⟨ty,(cellsOf v).length,1,fun _=>v⟩ c.cells:=by
 obtain ⟨a1,a2,a3⟩:=A9C hv h1 h0
 refine ⟨hg,by simp [a1],fun _ _=>rfl,fun _ _=>h1,fun i j y hi hy=>?_⟩
 obtain ⟨u,hu1,hu2⟩:=a3 j y hy
 refine ⟨u,?_,hu2⟩
 have:i=0:=by simp at hi;exact hi
 subst this;simpa using hu1
def B7N (ty:TypeId) (v:AV) (st:St) (k:KK):Prop :=
 0<(cellsOf v).length∧(cellsOf v).all AV.one=true∧(k (.fptr v 0) st∨∀ b,st b=none→k (.optr (cellsOf v).length b 0 0) (upd st b ⟨ty,(cellsOf v).length,1,fun _=>v⟩))
theorem B0a {w:World} {st:St} {g:Nat} {x:K4} {cs:Array Value} (hok:A2p w st g x cs) (hst:st g=none) (hn:0<x.n):M0 w st (.fptr (x.f 0) 0) (.pointer (some ⟨g,0,none⟩)):=by
 have hex:∀ j,∃ u,j<x.e→cs[j]?=some u∧∀ y,(cellsOf (x.f 0))[j]?=some y→M0 w st y u:=by
  intro j
  by_cases hj:j<x.e
  ·have hlen:=hok.len 0 hn
   obtain ⟨u,hu1,hu2⟩:=hok.cell 0 j ((cellsOf (x.f 0))[j]'(by omega)) hn (D6K (by omega))
   refine ⟨u,fun _=>⟨by simpa using hu1,fun y hy=>?_⟩⟩
   rw [D6K (by omega)] at hy
   cases hy;exact hu2
  ·exact ⟨undef,fun h=>absurd h hj⟩
 obtain ⟨g',hg'⟩:=Classical.axiomOfChoice hex
 have:=Rep.fptr (rd:=A3D w st) (sz:=A1n w) (x.f 0) 0 ⟨g,0,none⟩ g' (fun j hj=>by
  rw [hok.len 0 hn] at hj
  rw [Addr.add_lit]
  unfold A3D
  simp only [hst]
  rw [D6Q,cell_of_row w g _ cs x.ty (0,0) hok.heap]
  exact (hg' j hj).1) (fun j y hy=>(hg' j (by rw [←hok.len 0 hn];exact (D6U.1 hy).1)).2 y hy)
 rw [Addr.add_lit] at this
 exact this
theorem C4c {w:World} {st:St} {v:AV} {c:Value} {ty:TypeId} {k:KK} {a:Act} {d:Option Tmp} {next:Act→World→Prop} (hS:I3 st w) (hv:M0 w st v c) (h:B7N ty v st k) (hn:Nxt st w k a d next) :
  next (a.put d (.pointer (some ⟨w.heap.size,0,none⟩))) (w.alloc (.cells c.cells ty)):=by
 obtain ⟨h0,h1,hk⟩:=h
 have ha:=A3k.alloc w (.cells c.cells ty)
 have hfr:=hS.fresh
 rcases hk with hk | hk
 ·have hb:=B9I (st:=st) (ty:=ty) (g:=w.heap.size) (heap_alloc_new w _) ((ha.evo st).rep hv) h1 h0
  exact hn _ _ _ _ hk (B0a hb hfr (by simp)) (hS.adds ha) (ha.evo st)
 have he:=Evo.owned (x:=⟨ty,(cellsOf v).length,1,fun _=>v⟩) hS ha (D6M _)
 have hb:=B9I (ty:=ty) (g:=w.heap.size) (heap_alloc_new w _) (he.rep hv) h1 h0
 refine hn _ _ _ _ (hk w.heap.size hfr) ?_ (hS.owned ha (D6M _) _ _ hb) he
 have:=Rep.optr (rd:=A3D (w.alloc (.cells c.cells ty)) (upd st w.heap.size ⟨ty,(cellsOf v).length,1,fun _=>v⟩)) (sz:=A1n (w.alloc (.cells c.cells ty))) (cellsOf v).length w.heap.size 0 0
 simpa using this
theorem C5a {P:Program} {T:G9} (hT:TOk P T) {o:Oper} {a:Act} {st:St} {w:World} {t:TypeId} {r:C2} {k:KK} {next:Act→World→Prop} {Q:Exit→Act→World→Prop}
  (ho:o.op=.alloc t) (hr:T t=some r) (hS:I3 st w) (h:B7N t (H7 r.zero) st k) (hn:Nxt st w k a o.dst next):o.wp P a w next Q:=by
 have:=C4c hS (B1f _ _ r.zero) h hn
 unfold Oper.wp
 simp only [execOp,ho,Instr.alloc,Sem.run_bind,TOk.zero hT hr w,Result.andThen_ok,newVar,newRow,run_newObj,Sem.run_pure,Oper.upon]
 exact this
theorem C9m {P:Program} {o:Oper} {A:List AV} {a:Act} {st:St} {w:World} {t:TypeId} {x:Operand} {k:KK} {next:Act→World→Prop} {Q:Exit→Act→World→Prop}
  (ho:o.op=.box t x) (hA:P2 w st A a) (hS:I3 st w) (h:B7N t (ev A x) st k) (hn:Nxt st w k a o.dst next):o.wp P a w next Q:=by
 have:=C4c hS (H9 hA x) h hn
 unfold Oper.wp
 simp only [execOp,ho,Instr.box,Sem.run_bind,Result.andThen_ok,newVar,newRow,run_newObj,Sem.run_pure,Oper.upon]
 exact this
def A5y (place:Nat→Option (Nat×Nat)) (cells:List AV):List (Nat×AV)→Option (List AV)
 | []=>some cells
 | (i,v)::rest =>
  match place i with
  | none=>none
  | some (off,size) =>
   if (cellsOf v).length≠size∨off+size>cells.length∨(cellsOf v).all AV.one=false∨size=0 then none
   else A5y place (cells.take off++cellsOf v++cells.drop (off+size)) rest
theorem C1d (us:List Value):∀ (off:Nat) (j0:Nat) (cells:Array Value),off+j0+us.length≤cells.size →
  ((us.zipIdx j0).foldl (fun cs (p:Value×Nat)=>cs.setIfInBounds (off+p.2) p.1) cells).toList=cells.toList.take (off+j0)++us++cells.toList.drop (off+j0+us.length):=by
 induction us with
 | nil=>intro off j0 cells h;simp
 | cons u us ih =>
  intro off j0 cells h
  simp only [List.zipIdx_cons,D7U]
  simp only [D7o] at h
  rw [ih off (j0+1) _ (by simp;omega)]
  simp only [Array.toList_setIfInBounds]
  have e1:(cells.toList.set (off+j0) u).take (off+(j0+1))=cells.toList.take (off+j0)++[u]:=by
   rw [show off+(j0+1)=(off+j0)+1 from by omega,D8J (by simp;omega),List.take_set_of_le (D6M _)]
   simp
  have e2:(cells.toList.set (off+j0) u).drop (off+(j0+1)+us.length)=cells.toList.drop (off+j0+(u::us).length):=by
   rw [List.drop_set_of_lt (by omega)];congr 1;simp;omega
  rw [e1,e2];simp
theorem B0F {w:World} {st:St} {place:Nat→Option (Nat×Nat)}:∀ (ps:List (Nat×AV)) (qs:List (Nat×Value)) (cells:List AV) (us:Array Value) (out:List AV),
  ps.length=qs.length→(∀ (j:Nat) p q,ps[j]?=some p→qs[j]?=some q→p.1=q.1∧M0 w st p.2 q.2)→cells.length=us.size→(∀ (j:Nat) y c,cells[j]?=some y→us[j]?=some c→M0 w st y c) →
  A5y place cells ps=some out→∃ vs,Instr.fill place us qs=some vs∧out.length=vs.size∧∀ (j:Nat) y c,out[j]?=some y→vs[j]?=some c→M0 w st y c
 | [],qs,cells,us,out,hl,hp,hc,hr,h=>by
  cases qs with
  | nil=>simp only [A5y,D8O] at h;subst h;exact ⟨us,rfl,hc,hr⟩
  | cons q qs=>simp at hl
 | (i,v)::ps,qs,cells,us,out,hl,hp,hc,hr,h=>by
  cases qs with
  | nil=>simp at hl
  | cons q qs =>
   obtain ⟨i',c⟩:=q
   obtain ⟨e1,e2⟩:=hp 0 (i,v) (i',c) rfl rfl
   simp only at e1 e2
   subst e1
   simp only [A5y] at h
   cases hpl:place i with
   | none=>rw [hpl] at h;cases h
   | some os =>
    obtain ⟨off,size⟩:=os
    rw [hpl] at h
    simp only at h
    split at h
    ·cases h
    ·rename_i hcond
     simp only [not_or,Decidable.not_not,D9c] at hcond
     obtain ⟨hlen,hroom,hone,hsz⟩:=hcond
     obtain ⟨u1,u2,u3⟩:=A9C e2 hone (by omega)
     have hfold:=C1d c.cells.toList off 0 us (by simp [u1,hlen];omega)
     simp only [D8X] at hfold
     have hz:(Array.foldl (fun cs (x:Value×Nat)=>cs.setIfInBounds (off+x.2) x.1) us c.cells.zipIdx).toList=us.toList.take off++c.cells.toList++us.toList.drop (off+c.cells.toList.length):=by
      rw [←Array.foldl_toList,Array.toList_zipIdx];exact hfold
     obtain ⟨vs,h1,h2,h3⟩:=B0F ps qs _ (Array.foldl (fun cs (x:Value×Nat)=>cs.setIfInBounds (off+x.2) x.1) us c.cells.zipIdx) out (by simpa using hl) (fun j p q h1 h2=>hp (j+1) p q (by simpa using h1) (by simpa using h2))
      (by rw [←Array.length_toList,hz];simp [u1,hlen];omega)
      (fun j y d hy hd=>by
       rw [←D7t,hz] at hd
       rcases D8k j off with hj | hj
       ·rw [D8e,D7b (by simp;omega),D6S hj] at hy hd
        exact hr j y d hy (by simpa using hd)
       ·rcases D8k j (off+size) with hj2 | hj2
        ·rw [D8e,D7a (by simp;omega),D7b (by simp;omega)] at hy hd
         obtain ⟨u,hu1,hu2⟩:=u3 _ y hy
         have e3:min off us.size=min off cells.length:=by omega
         simp only [D6N,Array.length_toList,D7t] at hd hu1
         rw [e3] at hd
         rw [hu1] at hd;cases hd;exact hu2
        ·rw [D7a (by simp;omega),D8o] at hy hd
         refine hr _ y d hy ?_
         rw [←hd,D7t]
         congr 1;simp [u1,hlen];omega) h
     refine ⟨vs,?_,h2,h3⟩
     simp only [Instr.fill,hpl]
     rw [if_neg (by simp [u1,hlen];omega)]
     exact h1
def places (T:G9):List Field→Option (List (Nat×Nat))
 | []=>some []
 | f::fs=>match T f.type,places T fs with
  | some q,some r=>some ((f.offset,q.size)::r)
  | _,_=>none
theorem B3U {P:Program} {T:G9} (hT:TOk P T):∀ (fs:List Field) (pl:List (Nat×Nat)),places T fs=some pl→fs.mapM (fun f=>(P.info? f.type).map fun i=>(f.offset,i.size))=some pl
 | [],pl,h=>by simp [places] at h;subst h;simp
 | f::fs,pl,h=>by
  simp only [places] at h
  split at h
  case h_2=>cases h
  rename_i q r hq hr
  cases h
  obtain ⟨_,i,hi,hs,_⟩:=hT _ _ hq
  simp [List.mapM_cons,hi,hs,B3U hT fs r hr]
def A7C (T:G9) (t:TypeId) (ps:List (Nat×AV)) (k:AV→Prop):Prop :=
 match T t with
 | none=>False
 | some r=>match r.desc with
  | .struct fs=>match places T fs.toList with
   | none=>False
   | some pl=>match A5y (fun i=>pl[i]?) (cellsOf (H7 r.zero)) ps with
    | some out=>k (.agg out)
    | none=>False
  | .array n el=>match T el with
   | none=>False
   | some q=>match A5y (fun i=>some (i * q.size,q.size)) (cellsOf (H7 r.zero)) ps with
    | some out=>k (.agg out)
    | none=>False
  | _=>False
def evP (A:List AV) (ps:Array (Nat×Operand)):List (Nat×AV):=ps.toList.map fun p=>(p.1,ev A p.2)
theorem C3B {w:World} {st:St} {A:List AV} {a:Act} (hA:P2 w st A a) (ps:Array (Nat×Operand)) :
  (evP A ps).length=(ps.map fun (i,x)=>(i,a.eval x)).toList.length∧∀ (j:Nat) p q,(evP A ps)[j]?=some p→(ps.map fun (i,x)=>(i,a.eval x)).toList[j]?=some q→p.1=q.1∧M0 w st p.2 q.2:=by
 refine ⟨by simp [evP],fun j p q hp hq=>?_⟩
 simp only [evP,D7C,Array.toList_map,D7t] at hp hq
 cases hj:ps[j]? with
 | none=>rw [hj] at hp;cases hp
 | some x =>
  rw [hj] at hp hq
  cases hp;cases hq
  exact ⟨rfl,H9 hA x.2⟩
theorem A4X {rd:Addr→Option Value} {sz:Nat→Nat} {z:Value} (h:(cellsOf (H7 z)).length=z.cells.size):∀ (j:Nat) y c,(cellsOf (H7 z))[j]?=some y→z.cells[j]?=some c→Rep rd sz y c:=by
 intro j y c hy hc
 have hr:=B1f rd sz z
 generalize H7 z=v at *
 by_cases hv:v.one=true
 ·obtain ⟨_,e2,e3⟩:=hr.one hv
  rw [e2] at hc
  rw [e3] at hy
  cases j with
  | zero=>simp at hy hc;subst hy;subst hc;exact hr
  | succ j=>simp at hy
 ·cases hr with
  | agg cs vs hl hg=>exact hg j y c hy hc
  | tuple cs vs hl hg=>simp [cellsOf] at hy
  | junk c=>simp [cellsOf] at hy
  | _=>exact absurd rfl hv
def zOk (r:C2):Prop:=(cellsOf (H7 r.zero)).length=r.zero.cells.size
theorem C5c {P:Program} {T:G9} (hT:TOk P T) (hz:∀ t r,T t=some r→zOk r) {o:Oper} {A:List AV} {a:Act} {st:St} {w:World} {t:TypeId} {ps:Array (Nat×Operand)} {k:KK} {next:Act→World→Prop} {Q:Exit→Act→World→Prop}
  (ho:o.op=.build t ps) (hA:P2 w st A a) (hS:I3 st w) (h:A7C T t (evP A ps) (fun v=>k v st)) (hn:Nxt st w k a o.dst next):o.wp P a w next Q:=by
 obtain ⟨hl,hp⟩:=C3B hA ps
 suffices hmain:∃ out vs,k (.agg out) st∧P.built t (ps.map fun (i,x)=>(i,a.eval x)).toList=some vs∧M0 w st (.agg out) (.agg vs) by
  obtain ⟨out,vs,h1,h2,h3⟩:=hmain
  refine I5 (c:=.agg vs) ?_ hS h3 h1 hn
  have hr:=run_build (P:=P) w t (ps.map fun (i,x)=>(i,a.eval x)) vs h2
  simp only [execOp,ho,Sem.run_bind,hr,Result.andThen_ok,Sem.run_pure]
 unfold A7C at h
 split at h
 ·exact h.elim
 rename_i r hr
 obtain ⟨hu,i,hi,_,_,hiz⟩:=hT t r hr
 split at h
 ·rename_i fs hd
  split at h
  ·exact h.elim
  rename_i pl hpl
  split at h
  case h_2=>exact h.elim
  rename_i out hout
  obtain ⟨vs,h1,h2,h3⟩:=B0F _ _ _ r.zero.cells out hl hp (hz t r hr) (A4X (hz t r hr)) hout
  refine ⟨out,vs,h,?_,.agg _ _ h2 h3⟩
  rw [hd] at hu
  unfold Program.built
  simp only [hi,hu,hiz,B3U hT _ _ hpl]
  rw [show (fun x=>pl.toArray[x]?)=fun i=>pl[i]? from funext fun x=>by simp]
  exact h1
 ·rename_i n el hd
  split at h
  ·exact h.elim
  rename_i q hq
  obtain ⟨_,i',hi',hs',_⟩:=hT el q hq
  split at h
  case h_2=>exact h.elim
  rename_i out hout
  obtain ⟨vs,h1,h2,h3⟩:=B0F _ _ _ r.zero.cells out hl hp (hz t r hr) (A4X (hz t r hr)) hout
  refine ⟨out,vs,h,?_,.agg _ _ h2 h3⟩
  rw [hd] at hu
  unfold Program.built
  simp only [hi,hu,hiz,hi',hs']
  exact h1
 ·exact h.elim
def A1f (agg:Bool) (e len:Nat) (out:List AV):List AV:=(List.range len).map fun i=>if agg then .agg ((out.drop (i * e)).take e) else out.getD i .junk
theorem A5g {agg:Bool} {e len:Nat} {out:List AV} (hlen:out.length=len * e) (hone:out.all AV.one=true) (h1:agg=false→e=1) {i:Nat} (hi:i<len) :
  (cellsOf ((A1f agg e len out).getD i .junk)).length=e∧(cellsOf ((A1f agg e len out).getD i .junk)).all AV.one=true∧∀ j:Nat,j<e→(cellsOf ((A1f agg e len out).getD i .junk))[j]?=out[i * e+j]?:=by
 have hroom:i * e+e≤len * e:=by
  have:(i+1) * e≤len * e:=D7E _ hi
  rw [D8P] at this;omega
 have hg:(A1f agg e len out).getD i .junk=if agg then .agg ((out.drop (i * e)).take e) else out.getD i .junk:=by
  simp [A1f,hi]
 rw [hg]
 simp only [D6W] at hone
 cases agg with
 | true =>
  refine ⟨by simp [cellsOf];omega,?_,fun j hj=>?_⟩
  ·simp only [if_true,cellsOf,D6W]
   intro z hz
   exact hone _ (List.mem_of_mem_drop (D9C hz))
  ·simp only [if_true,cellsOf]
   rw [D6S hj,D8o]
 | false =>
  have he:=h1 rfl
  subst he
  have hlt:i<out.length:=by omega
  have hv:out.getD i .junk=out[i]:=by simp [D6K hlt]
  have ho:=hone _ (D8c hlt)
  have hc:cellsOf out[i]=[out[i]]:=by
   revert ho;cases out[i]<;>simp [AV.one,cellsOf]
  simp only [D8z,D9l,hv,hc]
  refine ⟨rfl,by simp [ho],fun j hj=>?_⟩
  obtain rfl:j=0:=by omega
  simp [D6K hlt]
def A1p (T:G9) (t:TypeId) (len:Nat) (ps:List (Nat×AV)) (st:St) (k:KK):Prop :=
 match T t with
 | none=>False
 | some r=>match r.desc with
  | .slice el=>match T el with
   | none=>False
   | some q=>0<len * q.size∧len * q.size≤16777216∧q.zero.cells.size=q.size∧(q.agg=false→q.size=1) ∧
    match A5y (fun i=>some (i * q.size,q.size)) ((List.range (len * q.size)).map fun i=>(cellsOf (H7 q.zero)).getD (i % q.size) .junk) ps with
    | some out=>out.all AV.one=true∧(k (.arr q.size len (fun i=>(A1f q.agg q.size len out).getD i .junk)) st ∨
      ∀ b,st b=none→k (.own q.size b 0 len) (upd st b ⟨el,q.size,len,fun i=>(A1f q.agg q.size len out).getD i .junk⟩))
    | none=>False
  | _=>False
theorem A8k {place:Nat→Option (Nat×Nat)}:∀ (ps:List (Nat×AV)) (cells out:List AV),A5y place cells ps=some out→out.length=cells.length
 | [],cells,out,h=>by simp only [A5y,D8O] at h;rw [h]
 | (i,v)::ps,cells,out,h=>by
  simp only [A5y] at h
  split at h
  ·cases h
  ·split at h
   ·cases h
   ·rename_i hcond
    simp only [not_or,Decidable.not_not,D9c] at hcond
    rw [A8k ps _ out h];simp;omega
theorem C4O {w:World} {st:St} {g:Nat} {ty:TypeId} {agg:Bool} {e len:Nat} {out:List AV} {vs:Array Value} (hg:w.heap[g]?=some (.cells vs ty (0,0))) (hlen:out.length=len * e) (hsz:len * e≤vs.size) (hone:out.all AV.one=true)
  (h1:agg=false→e=1) (hr:∀ (j:Nat) y c,out[j]?=some y→vs[j]?=some c→M0 w st y c) :
  A2p w st g ⟨ty,e,len,fun i=>(A1f agg e len out).getD i .junk⟩ vs:=by
 refine ⟨hg,hsz,fun i hi=>(A5g hlen hone h1 hi).1,fun i hi=>(A5g hlen hone h1 hi).2.1,fun i j y hi hy=>?_⟩
 obtain ⟨a1,a2,a3⟩:=A5g hlen hone h1 hi
 have hj:j<e:=by rw [←a1];exact (D6U.1 hy).1
 have hpos:=Z1 hi hj
 have hy':out[i * e+j]?=some y:=by rw [←a3 j hj];exact hy
 exact ⟨vs[i * e+j],D6V (by simp only at hpos ⊢;omega),hr _ _ _ hy' (D6V (by simp only at hpos ⊢;omega))⟩
theorem B1e {w:World} {st:St} {g:Nat} {x:K4} {cs:Array Value} (hok:A2p w st g x cs) (hst:st g=none) (off n:Nat) (hn:off+n≤x.n) (c:Nat) (hc:n≤c) :
  M0 w st (.arr x.e n (fun i=>x.f (off+i))) (.slice (some ⟨g,off * x.e,none⟩) n c):=by
 have hex:∀ i j,∃ u,i<n→j<x.e→cs[(off+i) * x.e+j]?=some u∧∀ y,(cellsOf (x.f (off+i)))[j]?=some y→M0 w st y u:=by
  intro i j
  by_cases hij:i<n∧j<x.e
  ·obtain ⟨hi,hj⟩:=hij
   have hlen:=hok.len (off+i) (by omega)
   obtain ⟨u,hu1,hu2⟩:=hok.cell (off+i) j ((cellsOf (x.f (off+i)))[j]'(by omega)) (by omega) (D6K (by omega))
   refine ⟨u,fun _ _=>⟨hu1,fun y hy=>?_⟩⟩
   rw [D6K (by omega)] at hy
   cases hy;exact hu2
  ·exact ⟨undef,fun h1 h2=>absurd ⟨h1,h2⟩ hij⟩
 have hex2:=fun i=>Classical.axiomOfChoice (hex i)
 obtain ⟨g',hg'⟩:=Classical.axiomOfChoice hex2
 refine .arr _ _ _ _ _ g' hc (fun _=>⟨_,rfl⟩) (fun i hi=>hok.len _ (by omega)) (fun i hi=>hok.one _ (by omega)) (fun a ha i j hi hj=>?_) (fun i j y hi hy=>?_)
 ·cases ha
  rw [Addr.add_lit]
  unfold A3D
  simp only [hst]
  rw [cell_of_row w g _ cs x.ty (0,0) hok.heap,←D9m,←D8P]
  exact (hg' i j hi hj).1
 ·have hj:j<x.e:=by rw [←hok.len (off+i) (by omega)];exact (D6U.1 hy).1
  exact (hg' i j hi hj).2 y hy
theorem B3j {P:Program} {T:G9} (hT:TOk P T) (hz:∀ t r,T t=some r→zOk r) {o:Oper} {A:List AV} {a:Act} {st:St} {w:World} {t:TypeId} {len:Nat} {ps:Array (Nat×Operand)} {k:KK} {next:Act→World→Prop} {Q:Exit→Act→World→Prop}
  (ho:o.op=.buildSlice t len ps) (hA:P2 w st A a) (hS:I3 st w) (h:A1p T t len (evP A ps) st k) (hn:Nxt st w k a o.dst next):o.wp P a w next Q:=by
 obtain ⟨hl,hp⟩:=C3B hA ps
 unfold A1p at h
 split at h
 ·exact h.elim
 rename_i r hr
 obtain ⟨hu,_⟩:=hT t r hr
 split at h
 case h_2=>exact h.elim
 rename_i el hd
 rw [hd] at hu
 split at h
 ·exact h.elim
 rename_i q hq
 obtain ⟨_,i,hi,his,_,hiz⟩:=hT el q hq
 obtain ⟨hpos,hsmall,hzs,h1,h⟩:=h
 split at h
 case h_2=>exact h.elim
 rename_i out hout
 obtain ⟨hone,hk⟩:=h
 have hq0:0<q.size:=Nat.pos_of_ne_zero fun e=>by rw [e] at hpos;simp at hpos
 have hzl:(cellsOf (H7 q.zero)).length=q.size:=by rw [hz el q hq,hzs]
 obtain ⟨vs,f1,f2,f3⟩:=B0F (w:=w) (st:=st) _ _ _ ((Array.range (len * q.size)).map (q.zero.cells[· % q.zero.cells.size]!)) out hl hp (by simp) (fun j y c hy hc=>by
  have hj:j<len * q.size:=by have:=(D6U.1 hy).1;simpa using this
  have hm:j % q.size<q.size:=Nat.mod_lt _ hq0
  simp only [D7C,D8i hj,D8K,D8O] at hy
  simp [hj] at hc
  subst hy;subst hc
  refine A4X (hz el q hq) (j % q.size) _ _ ?_ ?_
  ·rw [D6D,D6K (by omega)];rfl
  ·rw [hzs];simp [getElem!_def,D6V (show j % q.size<q.zero.cells.size by omega)]) hout
 have hol:out.length=len * q.size:=by rw [A8k _ _ _ hout];simp
 have hrun:=run_buildSlice (P:=P) w t el len (ps.map fun (i,x)=>(i,a.eval x)) vs i q.zero hu hi hiz (by rw [his];omega) (by rw [his];omega) (by rw [his];exact f1)
 have hal:=A3k.alloc w (.cells vs el)
 suffices hmain:next (a.put o.dst (.slice (some ⟨w.heap.size,0,none⟩) len len)) (w.alloc (.cells vs el)) by
  unfold Oper.wp
  simp only [execOp,ho,Sem.run_bind,hrun,Result.andThen_ok,Sem.run_pure,Oper.upon]
  exact hmain
 have hvs:len * q.size≤vs.size:=by rw [←f2,hol];exact D6M _
 rcases hk with hk | hk
 ·have hok:=C4O (w:=w.alloc (.cells vs el)) (st:=st) (g:=w.heap.size) (agg:=q.agg) (heap_alloc_new w _) hol hvs hone h1 (fun j y c hy hc=>(hal.evo st).rep (f3 j y c hy hc))
  refine hn _ _ _ _ hk ?_ (hS.adds hal) (hal.evo st)
  have:=B1e hok hS.fresh 0 len (by simp) len (D6M _)
  simpa using this
 ·have he:=Evo.owned (x:=⟨el,q.size,len,fun i=>(A1f q.agg q.size len out).getD i .junk⟩) hS hal (D6M _)
  have hok:=C4O (w:=w.alloc (.cells vs el)) (st:=upd st w.heap.size ⟨el,q.size,len,fun i=>(A1f q.agg q.size len out).getD i .junk⟩) (g:=w.heap.size) (agg:=q.agg) (heap_alloc_new w _) hol hvs hone h1 (fun j y c hy hc=>he.rep (f3 j y c hy hc))
  refine hn _ _ _ _ (hk _ hS.fresh) ?_ (hS.owned hal (D6M _) _ _ hok) he
  have:M0 (w.alloc (.cells vs el)) (upd st w.heap.size ⟨el,q.size,len,fun i=>(A1f q.agg q.size len out).getD i .junk⟩) (.own q.size w.heap.size 0 len) (.slice (some ⟨w.heap.size,0 * q.size,none⟩) len len) :=
   .own _ _ _ _ _ (D6M _) (by unfold A1n;rw [heap_alloc_new];simpa using hvs)
  simpa using this
def B5O (T:G9) (t:TypeId) (ps:List (Nat×AV)) (st:St) (k:KK):Prop :=
 match T t with
 | none=>False
 | some r=>match r.desc with
  | .slice el=>match T el with
   | none=>False
   | some _=>match ps with
    | []=>k .emp st
    | _::_=>False
  | _=>False
theorem C7s {P:Program} {T:G9} (hT:TOk P T) {o:Oper} {A:List AV} {a:Act} {st:St} {w:World} {t:TypeId} {ps:Array (Nat×Operand)} {k:KK} {next:Act→World→Prop} {Q:Exit→Act→World→Prop}
  (ho:o.op=.buildSlice t 0 ps) (hA:P2 w st A a) (hS:I3 st w) (h:B5O T t (evP A ps) st k) (hn:Nxt st w k a o.dst next):o.wp P a w next Q:=by
 unfold B5O at h
 split at h
 ·exact h.elim
 rename_i r hr
 obtain ⟨hu,_⟩:=hT t r hr
 split at h
 case h_2=>exact h.elim
 rename_i el hd
 rw [hd] at hu
 split at h
 ·exact h.elim
 rename_i q hq
 obtain ⟨_,i,hi,his,_,hiz⟩:=hT el q hq
 split at h
 case h_2=>exact h.elim
 rename_i hps
 have hp0:ps=#[]:=by
  unfold evP at hps
  rw [List.map_eq_nil_iff] at hps
  exact Array.toList_eq_nil_iff.1 hps
 subst hp0
 have hrun:(Instr.buildSlice t 0 #[]).run P w=.ok (.slice (some ⟨w.heap.size,0,none⟩) 0 0) (w.alloc (.cells #[] el)):=by
  simp [Instr.buildSlice,run_underlying hu,sizeOf,typeInfo,hi,Instr.fill,newRow]
  have e:∀ f:Nat→Value,Array.map f (Array.range 0)=#[]:=fun f=>Array.eq_empty_of_size_eq_zero (by simp)
  rw [e]
 have hal:=A3k.alloc w (.cells #[] el)
 unfold Oper.wp
 simp only [execOp,ho,Sem.run_bind,Array.map_empty,hrun,Result.andThen_ok,Sem.run_pure,Oper.upon]
 exact hn _ _ _ _ h (.emp _) (hS.adds hal) (hal.evo st)
def B0Y (T:G9) (t:TypeId) (l c:AV) (st:St) (k:KK):Prop :=
 match T t with
 | none=>False
 | some r=>match r.desc with
  | .slice el=>match T el with
   | none=>False
   | some q=>match l,c with
    | .int _ n,.int _ m=>(n=0∧0≤m∧(q.bytes:Int) * m≤281474976710656∧m≤9223372036854775807∧q.zero.cells.size=q.size∧(cellsOf (H7 q.zero)).all AV.one=true ∧
     ∀ b,st b=none→k (.cown q.size b 0 m.toNat) (upd st b ⟨el,q.size,m.toNat,fun _=>H7 q.zero⟩))∨n=m∧0≤n∧(q.bytes:Int) * n≤281474976710656∧n≤9223372036854775807∧q.zero.cells.size=q.size∧(cellsOf (H7 q.zero)).all AV.one=true ∧
     ∀ b,st b=none→k (.own q.size b 0 n.toNat) (upd st b ⟨el,q.size,n.toNat,fun _=>H7 q.zero⟩)
    | _,_=>False
  | _=>False
theorem B5q {P:Program} {T:G9} (hT:TOk P T) (hz:∀ t r,T t=some r→zOk r) {o:Oper} {A:List AV} {a:Act} {st:St} {w:World} {t:TypeId} {l c:Operand} {k:KK} {next:Act→World→Prop} {Q:Exit→Act→World→Prop}
  (ho:o.op=.makeSlice t l c) (hA:P2 w st A a) (hS:I3 st w) (h:B0Y T t (ev A l) (ev A c) st k) (hn:Nxt st w k a o.dst next):o.wp P a w next Q:=by
 unfold B0Y at h
 split at h
 ·exact h.elim
 rename_i r hr
 obtain ⟨hu,_⟩:=hT t r hr
 split at h
 case h_2=>exact h.elim
 rename_i el hd
 rw [hd] at hu
 split at h
 ·exact h.elim
 rename_i q hq
 obtain ⟨_,i,hi,his,hib,hiz⟩:=hT el q hq
 have hx:=H9 hA l
 have hy:=H9 hA c
 split at h
 case h_2=>exact h.elim
 rename_i kl n kc m hl hc
 rw [hl] at hx
 rw [hc] at hy
 generalize hlv:a.eval l=lv at hx
 generalize hcv:a.eval c=cv at hy
 cases hx
 cases hy
 have mk:∀ (m:Int),0≤m→q.zero.cells.size=q.size→(cellsOf (H7 q.zero)).all AV.one=true →
   I3 (upd st w.heap.size ⟨el,q.size,m.toNat,fun _=>H7 q.zero⟩) (w.alloc (.cells (madeCells q.zero.cells (m.toNat * i.size)) el))∧Evo st w (upd st w.heap.size ⟨el,q.size,m.toNat,fun _=>H7 q.zero⟩) (w.alloc (.cells (madeCells q.zero.cells (m.toNat * i.size)) el)) ∧
   A1n (w.alloc (.cells (madeCells q.zero.cells (m.toNat * i.size)) el)) w.heap.size=m.toNat * q.size:=by
  intro n h0 hzs hone
  have hal:=A3k.alloc w (.cells (madeCells q.zero.cells (n.toNat * i.size)) el)
  have hzl:(cellsOf (H7 q.zero)).length=q.size:=by rw [hz el q hq,hzs]
  have he:=Evo.owned (x:=⟨el,q.size,n.toNat,fun _=>H7 q.zero⟩) hS hal (D6M _)
  have hok:A2p (w.alloc (.cells (madeCells q.zero.cells (n.toNat * i.size)) el)) (upd st w.heap.size ⟨el,q.size,n.toNat,fun _=>H7 q.zero⟩) w.heap.size ⟨el,q.size,n.toNat,fun _=>H7 q.zero⟩ (madeCells q.zero.cells (n.toNat * i.size)):=by
   refine ⟨heap_alloc_new w _,by simp [size_madeCells,his],fun _ _=>hzl,fun _ _=>hone,fun i' j y hi' hy=>?_⟩
   have hj:j<q.size:=by rw [←hzl];exact (D6U.1 hy).1
   have hpos:=Z1 hi' hj
   have hmod:(i' * q.size+j) % q.size=j:=by rw [Nat.mul_comm,Nat.mul_add_mod];exact D9F hj
   refine ⟨q.zero.cells[j]'(by omega),?_,A4X (hz el q hq) j y _ hy (D6V (by omega))⟩
   simp only [madeCells]
   rw [Array.getElem?_map,Array.getElem?_range,if_pos (by rw [his];simpa using hpos)]
   simp only [D8K,hzs,hmod]
   rw [getElem!_pos q.zero.cells j (by omega)]
  exact ⟨hS.owned hal (D6M _) _ _ hok,he,by unfold A1n;rw [heap_alloc_new];simp [size_madeCells,his]⟩
 rcases h with ⟨rfl,h0,hbytes,h63,hzs,hone,hk⟩ | ⟨rfl,h0,hbytes,h63,hzs,hone,hk⟩
 ·have hrun:=run_make (P:=P) w t el i q.zero hu hi hiz kl kc 0 m (D7l _) h0 (by rw [hib];exact hbytes) h63
  obtain ⟨r1,r2,r3⟩:=mk m h0 hzs hone
  unfold Oper.wp
  simp only [execOp,ho,Sem.run_bind,hlv,hcv,hrun,Result.andThen_ok,Sem.run_pure,Oper.upon]
  exact hn _ _ _ _ (hk _ hS.fresh) (.cown _ _ _ _ (D7e _) (by rw [r3];exact D6M _)) r1 r2
 ·have hrun:=run_make (P:=P) w t el i q.zero hu hi hiz kl kc n n h0 (D7l _) (by rw [hib];exact hbytes) h63
  obtain ⟨r1,r2,r3⟩:=mk n h0 hzs hone
  unfold Oper.wp
  simp only [execOp,ho,Sem.run_bind,hlv,hcv,hrun,Result.andThen_ok,Sem.run_pure,Oper.upon]
  refine hn _ _ _ _ (hk _ hS.fresh) ?_ r1 r2
  have:M0 (w.alloc (.cells (madeCells q.zero.cells (n.toNat * i.size)) el)) (upd st w.heap.size ⟨el,q.size,n.toNat,fun _=>H7 q.zero⟩) (.own q.size w.heap.size 0 n.toNat) (.slice (some ⟨w.heap.size,0 * q.size,none⟩) n.toNat n.toNat) :=
   .own _ _ _ _ _ (D6M _) (by rw [r3,D6Q];exact D6M _)
  simpa using this
end Go.Ab
