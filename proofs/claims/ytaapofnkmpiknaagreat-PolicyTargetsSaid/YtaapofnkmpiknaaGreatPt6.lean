/- Part 6 of the proof: contracts -/
import Derived.Test.YtaapofnkmpiknaaGreatPt5
set_option linter.unusedVariables false
set_option linter.unusedSimpArgs false
namespace Go.Ab
open Go
def A7u (x:Option AV) (d:Int):Option Int :=
 match x with
 | none=>some d
 | some v=>match v with | .int _ n=>some n | _=>none
def A9r (T:H5) (t:TypeId) (x:AV) (lo hi mx:Option AV) (k:AV→Prop):Prop :=
 match T t with
 | none=>False
 | some r=>match r.desc with
  | .slice el=>match T el with
   | none=>False
   | some q=>match mx with
    | some m=>(match x with | .arr ..=>True | .own ..=>True | .emp=>True | _=>False)∧A7u lo 0=some 0∧A7u hi 1=some 0∧A7u (some m) 1=some 0∧k .emp
    | none=>match x with
     | .arr e n f=>match A7u lo 0,A7u hi n with
      | some l,some h=>q.size=e∧(0≤l∧l≤h∧h≤n)∧k (.arr e (h - l).toNat (fun i=>f (l.toNat+i)))
      | _,_=>False
     | .own e b off n=>match A7u lo 0,A7u hi n with
      | some l,some h=>q.size=e∧(0≤l∧l≤h∧h≤n)∧(l=0∨l<h)∧k (.own e b (off+l.toNat) (h - l).toNat)
      | _,_=>False
     | .emp=>match A7u lo 0,A7u hi 0 with
      | some l,some h=>l=0∧h=0∧k .emp
      | _,_=>False
     | .cown e b n c=>match A7u lo 0,A7u hi n with
      | some l,some h=>q.size=e∧l=0∧(0≤h∧h≤c)∧k (.cown e b h.toNat c)
      | _,_=>False
     | _=>False
  | .string=>match mx,x with
   | none,.str s=>match A7u lo 0,A7u hi s.size with
    | some l,some h=>(0≤l∧l≤h∧h≤s.size)∧k (.str (s.extract l.toNat h.toNat))
    | _,_=>False
   | _,_=>False
  | _=>False
def BV (xv:Option Value) (d n:Int):Prop:=(xv=none∧n=d)∨∃ kk,xv=some (.int kk n)
theorem A0N {w:World} {st:St} {A:List AV} {a:Act} (hA:Q0 w st A a) {x:Option Operand} {d n:Int} (h:A7u (x.map (ev A)) d=some n):BV (x.map a.eval) d n:=by
 cases x with
 | none=>simp only [Option.map_none,A7u,D9n] at h;exact .inl ⟨rfl,h.symm⟩
 | some y =>
  simp only [D9j,A7u] at h
  split at h
  ·rename_i kk m hv
   cases h
   have hr:=I2 hA y
   rw [hv] at hr
   generalize hyv:a.eval y=yv at hr
   cases hr
   exact .inr ⟨kk,by simp [hyv]⟩
  ·cases h
theorem Y9 {P:Program} {w:World} {k:IntKind} {n:Int} {m:Nat} {c:BoundsCode} (h:0≤n∧n≤m):(Instr.sliceBound (.int k n) m c).run P w=.ok n.toNat w:=by
 simp only [Instr.sliceBound,asIntOf,Sem.run_bind,Sem.run_pure,Result.andThen_ok]
 rw [if_pos h];rfl
theorem A2L {P:Program} {w:World} {len cap:Nat} {lo hi:Option Value} {l h:Int} (hlo:BV lo 0 l) (hhi:BV hi len h) (b:Bool)
  (hlc:len≤cap) (h0:0≤l∧l≤h∧h≤len):(Instr.sliceBounds b len cap lo hi none).run P w=.ok (l.toNat,h.toNat,cap) w:=by
 obtain ⟨h1,h2,h3⟩:=h0
 rcases hhi with ⟨rfl,rfl⟩ | ⟨k2,rfl⟩
 ·rcases hlo with ⟨rfl,rfl⟩ | ⟨k1,rfl⟩
  ·simp [Instr.sliceBounds]
  ·simp only [Instr.sliceBounds,Sem.run_bind,Sem.run_pure,Result.andThen_ok,Y9 (⟨h1,h2⟩:0≤l∧l≤((len:Nat):Int)),D7q]
 ·have e1:0≤h∧h≤((cap:Nat):Int):=⟨by omega,by omega⟩
  have e2:((h.toNat:Nat):Int)=h:=by omega
  rcases hlo with ⟨rfl,rfl⟩ | ⟨k1,rfl⟩
  ·simp [Instr.sliceBounds,Y9 e1]
  ·have e3:0≤l∧l≤((h.toNat:Nat):Int):=⟨h1,by omega⟩
   simp only [Instr.sliceBounds,Sem.run_bind,Sem.run_pure,Result.andThen_ok,Y9 e1]
   simp [Y9 e3]
theorem B7E {P:Program} {w:World} {len cap:Nat} {lo hi:Option Value} {h:Int} (hlo:BV lo 0 0) (hhi:BV hi len h) (hc:len≤cap) (hb:0≤h∧h≤cap):(Instr.sliceBounds true len cap lo hi none).run P w=.ok (0,h.toNat,cap) w:=by
 rcases hhi with ⟨rfl,rfl⟩ | ⟨k2,rfl⟩
 ·exact A2L hlo (.inl ⟨rfl,rfl⟩) true hc ⟨D7L _,by omega,D7L _⟩
 ·have e1:0≤h∧h≤((cap:Nat):Int):=⟨by omega,by omega⟩
  rcases hlo with ⟨rfl,_⟩ | ⟨k1,rfl⟩
  ·simp [Instr.sliceBounds,Y9 e1]
  ·have e3:(0:Int)≤0∧(0:Int)≤((h.toNat:Nat):Int):=⟨by omega,by omega⟩
   simp only [Instr.sliceBounds,Sem.run_bind,Sem.run_pure,Result.andThen_ok,Y9 e1]
   simp [Y9 e3]
theorem B7D {P:Program} {w:World} {len cap:Nat} {lo:Option Value} {k2 k3:IntKind} (hlo:BV lo 0 0) (b:Bool):(Instr.sliceBounds b len cap lo (some (.int k2 0)) (some (.int k3 0))).run P w=.ok (0,0,0) w:=by
 have e1:(0:Int)≤0∧(0:Int)≤((cap:Nat):Int):=⟨by omega,by omega⟩
 have e2:(0:Int)≤0∧(0:Int)≤(((0:Int).toNat:Nat):Int):=⟨by omega,by omega⟩
 rcases hlo with ⟨rfl,_⟩ | ⟨k1,rfl⟩
 ·simp [Instr.sliceBounds,Y9 e1,Y9 (⟨by omega,by omega⟩:(0:Int)≤0∧(0:Int)≤((0:Nat):Int))]
 ·simp [Instr.sliceBounds,Y9 e1,Y9 (⟨by omega,by omega⟩:(0:Int)≤0∧(0:Int)≤((0:Nat):Int))]
theorem BV.int {xv:Option Value} {n:Int} (h:BV xv 1 n) (hn:n=0):∃ kk,xv=some (.int kk 0):=by
 subst hn
 rcases h with ⟨_,h⟩ | ⟨kk,h⟩
 ·omega
 ·exact ⟨kk,h⟩
theorem C5H {P:Program} {T:H5} (hT:TOk P T) {o:Oper} {A:List AV} {a:Act} {st:St} {w:World} {t:TypeId} {x:Operand} {lo hi mx:Option Operand} {k:KK} {next:Act→World→Prop} {Q:Exit→Act→World→Prop}
  (ho:o.op=.slice t x lo hi mx) (hA:Q0 w st A a) (hS:H9 st w) (h:A9r T t (ev A x) (lo.map (ev A)) (hi.map (ev A)) (mx.map (ev A)) (fun v=>k v st)) (hn:Nxt st w k a o.dst next):o.wp P a w next Q:=by
 suffices hmain:∃ v c,k v st∧K8 w st v c∧(Instr.sliceAt t (a.eval x) (lo.map a.eval) (hi.map a.eval) (mx.map a.eval)).run P w=.ok c w by
  obtain ⟨v,c,hk,hv,hrun⟩:=hmain
  refine I8 (c:=c) ?_ hS hv hk hn
  simp only [execOp,ho,Sem.run_bind,hrun,Result.andThen_ok,Sem.run_pure]
 unfold A9r at h
 split at h
 ·exact h.elim
 rename_i r hr
 have hund:=TOk.und hT hr w
 have hx:=I2 hA x
 generalize hxv:a.eval x=cx at hx
 generalize ev A x=ax at h hx
 split at h
 case h_3=>exact h.elim
 ·rename_i el hd
  rw [hd] at hund
  split at h
  ·exact h.elim
  rename_i q hq
  have hsz:=TOk.sizeOf hT hq w
  split at h
  ·rename_i m hm
   obtain ⟨hform,hlo,hhi,hmx,hk⟩:=h
   rw [←hm] at hmx
   have blo:=A0N hA hlo
   obtain ⟨k2,bhi⟩:=(A0N hA hhi).int rfl
   obtain ⟨k3,bmx⟩:=(A0N hA hmx).int rfl
   refine ⟨.emp,?_⟩
   rw [bhi,bmx]
   have hsl:∃ p n c,cx=.slice p n c:=by
    cases hx<;>first | exact ⟨_,_,_,rfl⟩ | exact hform.elim
   obtain ⟨p,n,c,rfl⟩:=hsl
   refine ⟨.slice p 0 0,hk,.emp p,?_⟩
   simp [Instr.sliceAt,Instr.slice,hund,B7D blo,hsz]
  ·rename_i hm
   have hmn:mx.map a.eval=none:=by
    cases mx with
    | none=>rfl
    | some y=>simp at hm
   rw [hmn]
   split at h
   ·rename_i e n f
    split at h
    case h_2=>exact h.elim
    rename_i l hh hlo hhi
    obtain ⟨he,hb,hk⟩:=h
    have blo:=A0N hA hlo
    have bhi:=A0N hA hhi
    cases hx with
    | arr e n f p c g hc hA' hl ho' hr' hg' =>
     refine ⟨_,.slice (if c=l.toNat then p else p.map (·.add (l.toNat * q.size))) (hh.toNat - l.toNat) (c - l.toNat),hk,?_,?_⟩
     ·have hsub:(hh - l).toNat=hh.toNat - l.toNat:=by omega
      rw [hsub]
      refine .arr _ _ _ _ _ (fun i j=>g (l.toNat+i) j) (by omega) (fun hpos=>?_) (fun i hi=>hl _ (by omega)) (fun i hi=>ho' _ (by omega)) (fun ad had i j hi hj=>?_) (fun i j y hi hy=>hg' _ _ _ (by omega) hy)
      ·obtain ⟨ad,rfl⟩:=hA' (by omega)
       rw [if_neg (by omega)];exact ⟨_,rfl⟩
      ·obtain ⟨ad',rfl⟩:=hA' (by omega)
       rw [if_neg (by omega)] at had
       cases had
       rw [A8t,he,←D9M,←D9o]
       exact hr' ad' rfl _ _ (by omega) hj
     ·simp [Instr.sliceAt,Instr.slice,hund,A2L blo bhi true hc hb,hsz]
   ·rename_i e b off n
    split at h
    case h_2=>exact h.elim
    rename_i l hh hlo hhi
    obtain ⟨he,hb,hlh,hk⟩:=h
    have blo:=A0N hA hlo
    have bhi:=A0N hA hhi
    cases hx with
    | own e b off n c hc hs =>
     refine ⟨_,.slice (some ⟨b,(off+l.toNat) * e,none⟩) (hh.toNat - l.toNat) (c - l.toNat),hk,?_,?_⟩
     ·have hsub:(hh - l).toNat=hh.toNat - l.toNat:=by omega
      rw [hsub]
      refine .own _ _ _ _ _ (by omega) ?_
      rw [show off+l.toNat+(c - l.toNat)=off+c from by omega];exact hs
     ·have hif:(if c=l.toNat then some (⟨b,off * e,none⟩:Addr) else (some (⟨b,off * e,none⟩:Addr)).map (·.add (l.toNat * q.size)))=some ⟨b,(off+l.toNat) * e,none⟩:=by
       split
       ·have:l.toNat=0:=by omega
        rw [this];simp
       ·simp only [D9j,Addr.add_lit,he,D9o]
      simp only [Instr.sliceAt,Instr.slice,hund,Sem.run_bind,Result.andThen_ok,A2L blo bhi true hc hb,hsz,Sem.run_pure]
      rw [hif]
   ·split at h
    case h_2=>exact h.elim
    rename_i l hh hlo hhi
    obtain ⟨rfl,rfl,hk⟩:=h
    have blo:=A0N hA hlo
    have bhi:=A0N hA hhi
    cases hx with
    | emp p =>
     refine ⟨.emp,.slice p 0 0,hk,.emp p,?_⟩
     simp [Instr.sliceAt,Instr.slice,hund,A2L blo bhi true (D7l 0) (by omega),hsz]
   ·rename_i e b n c
    split at h
    case h_2=>exact h.elim
    rename_i l hh hlo hhi
    obtain ⟨he,rfl,hb,hk⟩:=h
    have blo:=A0N hA hlo
    have bhi:=A0N hA hhi
    cases hx with
    | cown e b n c hc hs =>
     refine ⟨_,.slice (some ⟨b,0,none⟩) hh.toNat c,hk,.cown _ _ _ _ (by omega) hs,?_⟩
     simp [Instr.sliceAt,Instr.slice,hund,B7E blo bhi hc hb,hsz,Addr.add_lit]
   ·exact h.elim
 ·rename_i hd
  rw [hd] at hund
  split at h
  case h_2=>exact h.elim
  rename_i s hm
  have hmn:mx.map a.eval=none:=by cases mx<;>simp_all
  rw [hmn]
  split at h
  case h_2=>exact h.elim
  rename_i l hh hlo hhi
  obtain ⟨hb,hk⟩:=h
  have blo:=A0N hA hlo
  have bhi:=A0N hA hhi
  cases hx
  refine ⟨_,.string (s.extract l.toNat hh.toNat),hk,.str _,?_⟩
  simp [Instr.sliceAt,Instr.slice,hund,A2L blo bhi false (D7l _) hb]
def C8T (d:TypeDesc) (v:AV):Option AV :=
 match d,v with
 | .slice _,.arr _ n _=>some (.int .i64 n)
 | .slice _,.own _ _ _ n=>some (.int .i64 n)
 | .slice _,.emp=>some (.int .i64 0)
 | .slice _,.cown _ _ n _=>some (.int .i64 n)
 | .string,.str s=>some (.int .i64 s.size)
 | _,_=>none
def C8V (x y:AV):Option AV:=match x,y with | .int k a,.int _ b=>some (.int k (if b<a then b else a)) | _,_=>none
def C8U (x y:AV):Option AV:=match x,y with | .int k a,.int _ b=>some (.int k (if a<b then b else a)) | _,_=>none
theorem Z0 {P:Program} {o:Oper} {a:Act} {w:World} {b:Builtin} {args:Array Operand} {ts:Array TypeId} (ho:o.op=.call { callee:=.builtin b,args:=args,argTypes:=ts }) :
  ∃ cs,(execOp a.eval o).run P w=(builtin b ts o.type cs (args.map a.eval)).run P w :=
 ⟨_,by simp only [execOp,ho,resolve,Sem.run_bind,Sem.run_pure,Result.andThen_ok,invoke];rfl⟩
theorem D0l {P:Program} {T:H5} (hT:TOk P T) {o:Oper} {A:List AV} {a:Act} {st:St} {w:World} {x:Operand} {t:TypeId} {r:C0} {k:KK} {next:Act→World→Prop} {Q:Exit→Act→World→Prop} {v:AV}
  (ho:o.op=.call { callee:=.builtin .len,args:=#[x],argTypes:=#[t] }) (hA:Q0 w st A a) (hS:H9 st w) (hr:T t=some r) (h:C8T r.desc (ev A x)=some v) (hk:k v st) (hn:Nxt st w k a o.dst next):o.wp P a w next Q:=by
 have hund:=TOk.und hT hr w
 have hx:=I2 hA x
 obtain ⟨bs,hrun⟩:=Z0 (P:=P) (a:=a) (w:=w) ho
 generalize hxv:a.eval x=cx at hx
 generalize ev A x=ax at h hx
 generalize r.desc=d at h hund
 unfold C8T at h
 split at h
 ·cases hx;cases h
  exact I8 (c:=.int .i64 _) (by rw [hrun];simp [builtin,Builtin.len_,hund,hxv,goInt]) hS (.int _ _) hk hn
 ·cases hx;cases h
  exact I8 (c:=.int .i64 _) (by rw [hrun];simp [builtin,Builtin.len_,hund,hxv,goInt]) hS (.int _ _) hk hn
 ·cases hx;cases h
  exact I8 (c:=.int .i64 _) (by rw [hrun];simp [builtin,Builtin.len_,hund,hxv,goInt]) hS (.int _ _) hk hn
 ·cases hx;cases h
  exact I8 (c:=.int .i64 _) (by rw [hrun];simp [builtin,Builtin.len_,hund,hxv,goInt]) hS (.int _ _) hk hn
 ·cases hx;cases h
  exact I8 (c:=.int .i64 _) (by rw [hrun];simp [builtin,Builtin.len_,hund,hxv,goInt]) hS (.int _ _) hk hn
 ·cases h
def C8S (d:TypeDesc) (v:AV):Option AV :=
 match d,v with
 | .slice _,.cown _ _ _ c=>some (.int .i64 c)
 | _,_=>none
theorem D0k {P:Program} {T:H5} (hT:TOk P T) {o:Oper} {A:List AV} {a:Act} {st:St} {w:World} {x:Operand} {t:TypeId} {r:C0} {k:KK} {next:Act→World→Prop} {Q:Exit→Act→World→Prop} {v:AV}
  (ho:o.op=.call { callee:=.builtin .cap,args:=#[x],argTypes:=#[t] }) (hA:Q0 w st A a) (hS:H9 st w) (hr:T t=some r) (h:C8S r.desc (ev A x)=some v) (hk:k v st) (hn:Nxt st w k a o.dst next):o.wp P a w next Q:=by
 have hund:=TOk.und hT hr w
 have hx:=I2 hA x
 obtain ⟨bs,hrun⟩:=Z0 (P:=P) (a:=a) (w:=w) ho
 generalize hxv:a.eval x=cx at hx
 generalize ev A x=ax at h hx
 generalize r.desc=d at h hund
 unfold C8S at h
 split at h
 ·cases hx;cases h
  exact I8 (c:=.int .i64 _) (by rw [hrun];simp [builtin,Builtin.cap_,hund,hxv,goInt]) hS (.int _ _) hk hn
 ·cases h
theorem D0n {P:Program} {o:Oper} {A:List AV} {a:Act} {st:St} {w:World} {x y:Operand} {ts:Array TypeId} {k:KK} {next:Act→World→Prop} {Q:Exit→Act→World→Prop} {v:AV}
  (ho:o.op=.call { callee:=.builtin .min,args:=#[x,y],argTypes:=ts }) (hA:Q0 w st A a) (hS:H9 st w) (h:C8V (ev A x) (ev A y)=some v) (hk:k v st) (hn:Nxt st w k a o.dst next):o.wp P a w next Q:=by
 have hx:=I2 hA x
 have hy:=I2 hA y
 obtain ⟨bs,hrun⟩:=Z0 (P:=P) (a:=a) (w:=w) ho
 generalize hxv:a.eval x=cx at hx
 generalize hyv:a.eval y=cy at hy
 generalize ev A x=ax at h hx
 generalize ev A y=ay at h hy
 unfold C8V at h
 split at h
 ·cases hx;cases hy;cases h
  exact I8 (c:=.int _ _) (by rw [hrun];simp [builtin,Builtin.min_,Builtin.min2,hxv,hyv]) hS (.int _ _) hk hn
 ·cases h
theorem D0m {P:Program} {o:Oper} {A:List AV} {a:Act} {st:St} {w:World} {x y:Operand} {ts:Array TypeId} {k:KK} {next:Act→World→Prop} {Q:Exit→Act→World→Prop} {v:AV}
  (ho:o.op=.call { callee:=.builtin .max,args:=#[x,y],argTypes:=ts }) (hA:Q0 w st A a) (hS:H9 st w) (h:C8U (ev A x) (ev A y)=some v) (hk:k v st) (hn:Nxt st w k a o.dst next):o.wp P a w next Q:=by
 have hx:=I2 hA x
 have hy:=I2 hA y
 obtain ⟨bs,hrun⟩:=Z0 (P:=P) (a:=a) (w:=w) ho
 generalize hxv:a.eval x=cx at hx
 generalize hyv:a.eval y=cy at hy
 generalize ev A x=ax at h hx
 generalize ev A y=ay at h hy
 unfold C8U at h
 split at h
 ·cases hx;cases hy;cases h
  exact I8 (c:=.int _ _) (by rw [hrun];simp [builtin,Builtin.max_,Builtin.max2,hxv,hyv]) hS (.int _ _) hk hn
 ·cases h
def A0v (e:Nat) (st:St) (x:AV):Option (Nat×(Nat→AV)) :=
 match x with
 | .arr e' m f=>if e'=e then some (m,f) else none
 | .emp=>some (0,fun _=>.junk)
 | .own e' b off m=>match st b with
  | some y=>if e'=e∧y.e=e∧off+m≤y.n then some (m,fun i=>y.f (off+i)) else none
  | none=>none
 | _=>none
def A5d (T:H5) (t:TypeId) (s x:AV) (st:St) (k:KK):Prop :=
 match T t with
 | none=>False
 | some r=>match r.desc with
  | .slice el=>match T el with
   | none=>False
   | some q=>0<q.size∧0<q.bytes∧q.zero.cells.size=q.size∧match A0v q.size st x with
    | none=>False
    | some (m,f)=>match s with
     | .emp=>(m=0→k .emp st)∧(0<m→m * q.bytes≤140737488355328∧∀ b,st b=none→k (.own q.size b 0 m) (upd st b ⟨el,q.size,m,f⟩))
     | .own e b off n=>e=q.size∧off=0∧match st b with
      | some y=>y.e=e∧y.ty=el∧y.n=n∧(m=0→k (.own e b 0 n) st)∧(0<m→(n+m) * q.bytes≤140737488355328 ∧
        ∀ b',(b'=b∨st b'=none)→k (.own e b' 0 (n+m)) (upd (del st b) b' ⟨el,e,n+m,fun i=>if i<n then y.f i else f (i - n)⟩))
      | none=>False
     | .cown e b n c=>e=q.size∧match st b with
      | some y=>y.e=e∧y.ty=el∧y.n=c∧(m=0→k (.cown e b n c) st)∧(0<m→n+m≤c∧k (.cown e b (n+m) c) (upd st b ⟨el,e,c,fun i=>if n≤i∧i<n+m then f (i - n) else y.f i⟩))
      | none=>False
     | _=>False
  | _=>False
theorem C2N {w:World} {st:St} {e m:Nat} {f:Nat→AV} {x:AV} {c:Value} (hS:H9 st w) (hx:K8 w st x c) (h:A0v e st x=some (m,f)) :
  ∃ p q,c=.slice p m q∧(0<m→∃ ad,p=some ad)∧(∀ i,i<m→(cellsOf (f i)).length=e∧(cellsOf (f i)).all AV.one=true) ∧
   ∃ us:List Value,us.length=m * e∧(∀ u∈us,u.oneCell'=true)∧(∀ ad,p=some ad→∀ (j:Nat) u,us[j]?=some u→w.cell? (ad.add j)=some u) ∧
    ∀ i j y,i<m→(cellsOf (f i))[j]?=some y→∃ u,us[i * e+j]?=some u∧K8 w st y u:=by
 have build:∀ (g:Nat→Nat→Value) (p:Option Addr),(∀ i,i<m→(cellsOf (f i)).length=e∧(cellsOf (f i)).all AV.one=true)→(∀ ad,p=some ad→∀ i j,i<m→j<e→w.cell? (ad.add (i * e+j))=some (g i j)) →
   (∀ (i j:Nat) y,i<m→(cellsOf (f i))[j]?=some y→K8 w st y (g i j)) →
   ∃ us:List Value,us.length=m * e∧(∀ u∈us,u.oneCell'=true)∧(∀ ad,p=some ad→∀ (j:Nat) u,us[j]?=some u→w.cell? (ad.add j)=some u) ∧
    ∀ (i j:Nat) y,i<m→(cellsOf (f i))[j]?=some y→∃ u,us[i * e+j]?=some u∧K8 w st y u:=by
  intro g p h1 h2 h3
  have hdm:∀ j,j<m * e→j / e<m∧j % e<e∧j / e * e+j % e=j:=fun j hj=>by
   have he:0<e:=Nat.pos_of_ne_zero fun h=>by subst h;simp at hj
   exact ⟨(Nat.div_lt_iff_lt_mul he).2 hj,Nat.mod_lt _ he,Nat.div_add_mod' j e⟩
  refine ⟨(List.range (m * e)).map fun j=>g (j / e) (j % e),by simp,fun u hu=>?_,fun ad had j u hu=>?_,fun i j y hi hy=>?_⟩
  ·obtain ⟨j,hj,rfl⟩:=D7y.1 hu
   obtain ⟨d1,d2,d3⟩:=hdm j (D7t.1 hj)
   obtain ⟨l1,l2⟩:=h1 _ d1
   have hgy:=D7k (l:=cellsOf (f (j / e))) (i:=j % e) (by omega)
   simp only [D7s] at l2
   exact (Rep.one (h3 _ _ _ d1 hgy) (l2 _ (D8y _))).1
  ·have hj:j<m * e:=by have:=(D7w.1 hu).1;simpa using this
   obtain ⟨d1,d2,d3⟩:=hdm j hj
   simp only [D8a,D8C hj,D9j,D9n] at hu
   subst hu
   have:=h2 ad had _ _ d1 d2
   rwa [d3] at this
  ·have hj:j<e:=by rw [←(h1 i hi).1];exact (D7w.1 hy).1
   have hpos:=A0d hi hj
   refine ⟨g i j,?_,h3 i j y hi hy⟩
   simp only [D8a,D8C hpos,D9j]
   have he:0<e:=by omega
   congr 1
   rw [show (i * e+j) / e=i from by rw [Nat.mul_comm,Nat.mul_add_div he,Nat.div_eq_of_lt hj];omega,show (i * e+j) % e=j from by rw [Nat.mul_comm,Nat.mul_add_mod];exact E0c hj]
 unfold A0v at h
 split at h
 ·rename_i e' m' f'
  split at h
  case isFalse=>cases h
  rename_i he
  subst he
  cases h
  cases hx with
  | arr e n f p c g hc hA hl ho hr hg =>
   refine ⟨p,c,rfl,hA,fun i hi=>⟨hl i hi,ho i hi⟩,build g p (fun i hi=>⟨hl i hi,ho i hi⟩) (fun ad had i j hi hj=>A4M (hr ad had i j hi hj)) hg⟩
 ·cases h
  cases hx with
  | emp p=>exact ⟨p,0,rfl,fun h=>absurd h (by omega),fun i hi=>absurd hi (by omega),[],by simp,fun u hu=>(by cases hu),fun ad had j u hu=>by simp at hu,fun i j y hi=>absurd hi (by omega)⟩
 ·rename_i e' b off m'
  split at h
  case h_2=>cases h
  rename_i y hy
  split at h
  case isFalse=>cases h
  rename_i hcond
  obtain ⟨rfl,he,hle⟩:=hcond
  cases h
  obtain ⟨cs,hok⟩:=hS b y hy
  cases hx with
  | own e b off n c hc hs =>
   have hex:∀ i j,∃ u,i<m→j<e'→cs[(off+i) * e'+j]?=some u∧∀ z,(cellsOf (y.f (off+i)))[j]?=some z→K8 w st z u:=by
    intro i j
    by_cases hij:i<m∧j<e'
    ·obtain ⟨hi,hj⟩:=hij
     have hlen:=hok.len (off+i) (by omega)
     obtain ⟨u,hu1,hu2⟩:=hok.cell (off+i) j ((cellsOf (y.f (off+i)))[j]'(by omega)) (by omega) (D7k (by omega))
     refine ⟨u,fun _ _=>⟨by rw [←he];exact hu1,fun z hz=>?_⟩⟩
     rw [D7k (by omega)] at hz
     cases hz;exact hu2
    ·exact ⟨undef,fun h1 h2=>absurd ⟨h1,h2⟩ hij⟩
   have hex2:=fun i=>Classical.axiomOfChoice (hex i)
   obtain ⟨g',hg'⟩:=Classical.axiomOfChoice hex2
   have hl:∀ i,i<m→(cellsOf (y.f (off+i))).length=e'∧(cellsOf (y.f (off+i))).all AV.one=true:=fun i hi=>⟨by rw [←he];exact hok.len _ (by omega),hok.one _ (by omega)⟩
   refine ⟨_,c,rfl,fun _=>⟨_,rfl⟩,hl,build g' _ hl (fun ad had i j hi hj=>?_) (fun i j z hi hz=>?_)⟩
   ·cases had
    rw [Addr.add_lit,cell_of_row w b _ cs y.ty (0,0) hok.heap,←D9M,←D9o]
    exact (hg' i j hi hj).1
   ·have hj:j<e':=by rw [←(hl i hi).1];exact (D7w.1 hz).1
    exact (hg' i j hi hj).2 z hz
 ·cases h
theorem B1l (st:St) (b:Nat) (x:L7):upd (del st b) b x=upd st b x:=funext fun c=>by unfold upd del;split<;>rfl
section
variable {P:Program} {T:H5} (hT:TOk P T) {t el ty:TypeId} {r q:C0} (hr:T t=some r) (hd:r.desc=.slice el) (hq:T el=some q)
include hT hr hd hq
theorem A3b {w:World} (base:Option Addr) (n c:Nat) (hn:n≤c) (p:Option Addr) (qc:Nat) :
  (Builtin.append_ #[t,t] ty #[.slice base n c,.slice p 0 qc]).run P w=.ok (.slice base n c) w:=by
 obtain ⟨hu,_⟩:=hT t r hr
 rw [hd] at hu
 obtain ⟨_,i,hi,_⟩:=hT el q hq
 have h0:∀ sz:Nat,(Builtin.firstCells sz 0 (.slice p 0 qc)).run P w=.ok #[] w:=fun sz=>by
  cases p with
  | none=>simp [Builtin.firstCells]
  | some a=>simp [Builtin.firstCells,loadCells,loadCellsFrom]
 cases base with
 | none=>simp [Builtin.append_,run_underlying hu,Go.sizeOf,typeInfo,hi,Builtin.lenOf,hn,h0]
 | some a=>simp [Builtin.append_,run_underlying hu,Go.sizeOf,typeInfo,hi,Builtin.lenOf,hn,h0,storeCells]
theorem A3h {w:World} {b n c m qc:Nat} {ad:Addr} {us:List Value} {cs:Array Value} {et:TypeId} (hh:w.heap[b]?=some (.cells cs et (0,0))) (hl:us.length=m * q.size)
  (hus:∀ (j:Nat) u,us[j]?=some u→w.cell? (ad.add j)=some u) (h1:∀ u∈us,u.oneCell'=true) (hroom:n+m≤c) (hc:c * q.size≤cs.size) :
  (Builtin.append_ #[t,t] ty #[.slice (some ⟨b,0,none⟩) n c,.slice (some ad) m qc]).run P w =
   .ok (.slice (some ⟨b,0,none⟩) (n+m) c) (w.setRow b (cs.toList.take (n * q.size)++us++cs.toList.drop (n * q.size+us.length)).toArray):=by
 obtain ⟨hu,_⟩:=hT t r hr
 rw [hd] at hu
 obtain ⟨_,i,hi,his,_⟩:=hT el q hq
 have hfc:=run_firstCells_some (P:=P) w i.size m ad m qc us (by rw [his];exact hl) hus
 have hsize:n * q.size+us.length≤cs.size:=by
  have:(n+m) * q.size≤c * q.size:=D8c _ hroom
  rw [D9o] at this;omega
 have hst:=run_storeCells_at (P:=P) b (n * q.size) et us 0 cs w hh (by omega) h1
 simp only [D9v] at hst
 rw [←his] at hst ⊢
 simp [Builtin.append_,run_underlying hu,Go.sizeOf,typeInfo,hi,Builtin.lenOf,hroom,hfc,Addr.add_lit,hst]
theorem A5P {w:World} (hq0:0<q.size) (hzs:q.zero.cells.size=q.size) (base:Option Addr) (n c:Nat) (olds:List Value) (hb:base=none→n=0∧c=0) (hlo:olds.length=n * q.size)
  (holds:∀ a,base=some a→∀ (j:Nat) u,olds[j]?=some u→w.cell? (a.add j)=some u) {m qc:Nat} {ad:Addr} {us:List Value} (hl:us.length=m * q.size)
  (hus:∀ (j:Nat) u,us[j]?=some u→w.cell? (ad.add j)=some u) (h1:∀ u∈us,u.oneCell'=true) (hm:0<m) (hfull:c<n+m) (hbytes:(n+m) * q.bytes≤140737488355328) (hb0:0<q.bytes) :
  ∃ g cap cur w',(Builtin.append_ #[t,t] ty #[.slice base n c,.slice (some ad) m qc]).run P w=.ok (.slice (some ⟨g,0,none⟩) (n+m) cap) w'∧A4f w w'∧w.heap.size≤g∧w'.heap[g]?=some (.cells cur el (0,0)) ∧
   n+m≤cap∧cur.size=cap * q.size∧cur.toList.take ((n+m) * q.size)=olds++us:=by
 obtain ⟨hu,_⟩:=hT t r hr
 rw [hd] at hu
 obtain ⟨_,i,hi,his,hib,hiz⟩:=hT el q hq
 have hmax:n+m≤maxLen:=by
  have h:n+m≤(n+m) * q.bytes:=Nat.le_mul_of_pos_right _ hb0
  simp only [maxLen];omega
 suffices hmain:∃ v' w',(Builtin.append_ #[t,t] ty #[.slice base n c,.slice (some ad) m qc]).run P w=.ok v' w'∧w'.ownsRow w.heap.size el q.size v' (n+m) (olds++us)∧w.grownBy w' none by
  obtain ⟨v',w',hrun,⟨_,hown⟩,hg⟩:=hmain
  rcases hown with ⟨_,h0⟩ | ⟨g,cap,cur,rfl,hge,hh,hnc,_,hsz,htake⟩
  ·omega
  ·refine ⟨g,cap,cur,w',hrun,⟨hg.os,hg.tape,hg.output,hg.size,fun b hb=>hg.block b hb (by simp)⟩,hge,hh,hnc,hsz,?_⟩
   first | exact htake | (rw [←htake];congr 1;simp [hlo,hl,D9o])
 cases base with
 | some b =>
  exact run_append_arg_grows (P:=P) w t ty el i q.zero q.size q.bytes hu hi hiz his hib hzs hq0 b n c olds hlo (holds b rfl) ad m qc us hl hus hfull hmax hbytes
 | none =>
  obtain ⟨rfl,rfl⟩:=hb rfl
  obtain rfl:olds=[]:=D7O (by simpa using hlo)
  obtain ⟨v',w',hrun,r1,r2,_⟩:=run_append_own (P:=P) w w.heap.size t ty el i q.zero q.size q.bytes hu hi hiz his hib hzs hq0 (.slice none 0 0) 0 [] (World.ownsRow_nil w _ el q.size) ad m qc us hl hus h1 hmax hbytes (D7l _)
  exact ⟨v',w',hrun,r1,r2⟩
end
theorem C2G {P:Program} {T:H5} (hT:TOk P T) {o:Oper} {A:List AV} {a:Act} {st:St} {w:World} {s x:Operand} {t:TypeId} {k:KK} {next:Act→World→Prop} {Q:Exit→Act→World→Prop}
  (ho:o.op=.call { callee:=.builtin .append,args:=#[s,x],argTypes:=#[t,t] }) (hA:Q0 w st A a) (hS:H9 st w) (h:A5d T t (ev A s) (ev A x) st k) (hn:Nxt st w k a o.dst next):o.wp P a w next Q:=by
 suffices hmain:∃ v c st' w',k v st'∧(Builtin.append_ #[t,t] o.type #[a.eval s,a.eval x]).run P w=.ok c w'∧K8 w' st' v c∧H9 st' w'∧Evo st w st' w' by
  obtain ⟨v,c,st',w',hk,hrun,hv,hS',he⟩:=hmain
  obtain ⟨bs,hrun'⟩:=Z0 (P:=P) (a:=a) (w:=w) ho
  unfold Oper.wp
  rw [hrun']
  simp only [builtin,Sem.run_bind,List.map_toArray,D8k,E0e,hrun,Result.andThen_ok,Sem.run_pure,Oper.upon]
  exact hn _ _ _ _ hk hv hS' he
 have hx:=I2 hA x
 have hs:=I2 hA s
 generalize a.eval x=cx at hx
 generalize a.eval s=cs at hs
 generalize ev A x=ax at h hx
 generalize ev A s=asv at h hs
 unfold A5d at h
 split at h
 ·exact h.elim
 rename_i r hr
 split at h
 case h_2=>exact h.elim
 rename_i el hd
 split at h
 ·exact h.elim
 rename_i q hq
 obtain ⟨hq0,hb0,hzs,h⟩:=h
 split at h
 ·exact h.elim
 rename_i m f hsrc
 obtain ⟨p,qc,rfl,hp,hcf,us,hus1,hus2,hus3,hus4⟩:=C2N hS hx hsrc
 split at h
 ·obtain ⟨hk0,hk1⟩:=h
  cases hs with
  | emp base =>
   by_cases hm:0<m
   ·obtain ⟨hbytes,hk⟩:=hk1 hm
    obtain ⟨ad,rfl⟩:=hp hm
    obtain ⟨g,cap,cur,w',hrun,hadd,hge,hh,hnc,hsz,htake⟩:=A5P (ty:=o.type) hT hr hd hq (w:=w) hq0 hzs base 0 0 [] (fun _=>⟨rfl,rfl⟩) (by simp) (fun _ _ j u hu=>by simp at hu) (m:=m) (qc:=qc) (by simpa using hus1) (hus3 ad rfl) hus2 hm (by omega) (by simpa using hbytes) hb0
    have hfr:st g=none:=by
     cases hg:st g with
     | none=>rfl
     | some z=>exact absurd (hS.lt hg) (by omega)
    have he:=Evo.owned (x:=⟨el,q.size,m,f⟩) hS hadd hge
    simp only [D7o,E0f] at htake hnc hrun
    have hmc:m * q.size≤cap * q.size:=D8c _ hnc
    have hok:A2G w' (upd st g ⟨el,q.size,m,f⟩) g ⟨el,q.size,m,f⟩ cur:=by
     refine ⟨hh,by rw [hsz];exact hmc,fun i hi=>(hcf i hi).1,fun i hi=>(hcf i hi).2,fun i j y hi hy=>?_⟩
     obtain ⟨u,hu1,hu2⟩:=hus4 i j y hi hy
     refine ⟨u,?_,he.rep hu2⟩
     rw [←htake] at hu1
     have hlt:i * q.size+j<m * q.size:=A0d hi (by rw [←(hcf i hi).1];exact (D7w.1 hy).1)
     rw [D7r hlt] at hu1
     simpa using hu1
    refine ⟨_,_,_,w',hk g hfr,hrun,?_,hS.owned hadd hge _ _ hok,he⟩
    have:K8 w' (upd st g ⟨el,q.size,m,f⟩) (.own q.size g 0 m) (.slice (some ⟨g,0 * q.size,none⟩) m cap):=.own _ _ _ _ _ hnc (by unfold A1F;rw [hh];simp [hsz])
    simpa using this
   ·obtain rfl:m=0:=by omega
    exact ⟨_,_,st,w,hk0 rfl,A3b hT hr hd hq base 0 0 (D7l _) p qc,.emp base,hS,Evo.refl _ _⟩
 ·rename_i e b off n
  obtain ⟨rfl,rfl,h⟩:=h
  split at h
  case h_2=>exact h.elim
  rename_i y hy
  obtain ⟨hye,hyt,hyn,hk0,hk1⟩:=h
  obtain ⟨cs',hok⟩:=hS b y hy
  cases hs with
  | own e b off n c hc hsz0 =>
   by_cases hm:0<m
   ·obtain ⟨hbytes,hk⟩:=hk1 hm
    obtain ⟨ad,rfl⟩:=hp hm
    have hszb:A1F w b=cs'.size:=by unfold A1F;rw [hok.heap]
    rw [hszb] at hsz0
    simp only [D7o] at hsz0
    have hcells:∀ i,i<n+m→(cellsOf ((fun i=>if i<n then y.f i else f (i - n)) i)).length=q.size∧(cellsOf ((fun i=>if i<n then y.f i else f (i - n)) i)).all AV.one=true:=fun i hi=>by
     simp only
     split
     ·exact ⟨by rw [←hye];exact hok.len i (by omega),hok.one i (by omega)⟩
     ·exact hcf _ (by omega)
    have hnq:n * q.size≤cs'.size:=by have:=hok.size;rw [hye,hyn] at this;exact this
    -- what the cells of the new row are
    have hrow:∀ (w':World) (b':Nat) (cur:Array Value),Evo st w (upd (del st b) b' ⟨el,q.size,n+m,fun i=>if i<n then y.f i else f (i - n)⟩) w'→w'.heap[b']?=some (.cells cur el (0,0))→(n+m) * q.size≤cur.size →
      cur.toList.take ((n+m) * q.size)=cs'.toList.take (n * q.size)++us →
      A2G w' (upd (del st b) b' ⟨el,q.size,n+m,fun i=>if i<n then y.f i else f (i - n)⟩) b' ⟨el,q.size,n+m,fun i=>if i<n then y.f i else f (i - n)⟩ cur:=by
     intro w' b' cur he hh hsz htake
     refine ⟨hh,hsz,fun i hi=>(hcells i hi).1,fun i hi=>(hcells i hi).2,fun i j z hi hz=>?_⟩
     have hi':i<n+m:=hi
     have hj:j<q.size:=by rw [←(hcells i hi).1];exact (D7w.1 hz).1
     have hlt:=A0d hi hj
     have hcur:cur[i * q.size+j]?=(cs'.toList.take (n * q.size)++us)[i * q.size+j]?:=by
      rw [←htake,D7r hlt,D7T]
     simp only at hcur hz ⊢
     rw [hcur]
     split at hz
     ·rename_i hin
      obtain ⟨u,hu1,hu2⟩:=hok.cell i j z (by omega) hz
      refine ⟨u,?_,he.rep hu2⟩
      have hlt2:i * q.size+j<n * q.size:=A0d hin hj
      rw [D7B (by simp;omega),D7r hlt2,D7T,←hye];exact hu1
     ·rename_i hin
      obtain ⟨u,hu1,hu2⟩:=hus4 (i - n) j z (by omega) hz
      refine ⟨u,?_,he.rep hu2⟩
      have hge2:n * q.size≤i * q.size:=D8c _ (by omega)
      rw [D7A (by simp;omega),←hu1]
      congr 1
      rw [Nat.sub_mul]
      simp;omega
    by_cases hroom:n+m≤c
    ·have hrun:=A3h (ty:=o.type) hT hr hd hq (w:=w) (b:=b) (n:=n) (c:=c) (m:=m) (qc:=qc) (ad:=ad) (us:=us) hok.heap hus1 (hus3 ad rfl) hus2 hroom hsz0
     have hsz1:(n+m) * q.size≤cs'.size:=D8r (D8c _ hroom) hsz0
     have hsz2:n * q.size+m * q.size≤cs'.size:=by rw [←D9o];exact hsz1
     have hsize:cs'.size≤(cs'.toList.take (n * q.size)++us++cs'.toList.drop (n * q.size+us.length)).toArray.size:=by simp [hus1];omega
     have he:=Evo.setRow (y:=⟨el,q.size,n+m,fun i=>if i<n then y.f i else f (i - n)⟩) hy hok.heap hsize
     rw [←B1l] at he
     have hnew:=hrow _ b _ he (by rw [Y3 hok.heap,hyt]) (by simp [hus1];omega) (by
      simp only [List.toList_toArray]
      rw [List.take_append_of_le_length (by simp [hus1,D9o];omega)]
      rw [D8T (by simp [hus1,D9o];omega)])
     refine ⟨_,_,_,_,hk b (.inl rfl),(by simpa using hrun),?_,?_,he⟩
     ·have:K8 (w.setRow b (cs'.toList.take (n * q.size)++us++cs'.toList.drop (n * q.size+us.length)).toArray) (upd (del st b) b ⟨el,q.size,n+m,fun i=>if i<n then y.f i else f (i - n)⟩) (.own q.size b 0 (n+m)) (.slice (some ⟨b,0 * q.size,none⟩) (n+m) c) :=
       .own _ _ _ _ _ hroom (by unfold A1F;rw [Y3 hok.heap];simp only [D7o];exact D8r hsz0 hsize)
      simpa using this
     ·rw [B1l] at hnew ⊢
      exact hS.setRow hy hok.heap hsize hnew
    ·obtain ⟨g,cap,cur,w',hrun,hadd,hge,hh,hnc,hsz,htake⟩:=A5P (ty:=o.type) hT hr hd hq (w:=w) hq0 hzs (some ⟨b,0,none⟩) n c (cs'.toList.take (n * q.size)) (fun h=>by cases h) (by simp;omega)
      (fun a ha j u hu=>by
       cases ha
       have hj:j<n * q.size:=by have:=(D7w.1 hu).1;simp at this;omega
       rw [Addr.add_lit,D7o,cell_of_row w b _ cs' y.ty (0,0) hok.heap]
       rw [D7r hj] at hu;simpa using hu) (m:=m) (qc:=qc) hus1 (hus3 ad rfl) hus2 hm (by omega) hbytes hb0
     have hfr:st g=none:=by
      cases hg:st g with
      | none=>rfl
      | some z=>exact absurd (hS.lt hg) (by omega)
     have hgb:g≠b:=fun h=>by rw [h,hy] at hfr;cases hfr
     have he:Evo st w (upd (del st b) g ⟨el,q.size,n+m,fun i=>if i<n then y.f i else f (i - n)⟩) w' :=
      ⟨hadd.os,hadd.tape,hadd.output,hadd.size,fun b0 hb0 hs0=>⟨hadd.blk b0 hb0,by unfold upd del;rw [if_neg (by omega)];split;rfl;exact hs0⟩,B5V hadd.blk⟩
     have hnew:=hrow w' g cur he hh (by rw [hsz];exact D8c _ hnc) htake
     refine ⟨_,_,_,w',hk g (.inr hfr),(by simpa using hrun),?_,?_,he⟩
     ·have:K8 w' (upd (del st b) g ⟨el,q.size,n+m,fun i=>if i<n then y.f i else f (i - n)⟩) (.own q.size g 0 (n+m)) (.slice (some ⟨g,0 * q.size,none⟩) (n+m) cap) :=
       .own _ _ _ _ _ hnc (by unfold A1F;rw [hh];simp [hsz])
      simpa using this
     ·intro b0 z hz
      unfold upd at hz
      split at hz
      ·rename_i h0
       subst h0
       cases hz
       exact ⟨cur,hnew⟩
      ·unfold del at hz
       split at hz
       ·cases hz
       ·obtain ⟨ds,hds⟩:=hS b0 z hz
        exact ⟨ds,hds.evo he (hadd.blk b0 (hS.lt hz))⟩
   ·obtain rfl:m=0:=by omega
    have hrun:=A3b (ty:=o.type) (w:=w) hT hr hd hq (some ⟨b,0 * q.size,none⟩) n c hc p qc
    exact ⟨_,_,st,w,hk0 rfl,hrun,.own _ _ _ _ _ hc hsz0,hS,Evo.refl _ _⟩
 ·rename_i e b n c
  obtain ⟨rfl,h⟩:=h
  split at h
  case h_2=>exact h.elim
  rename_i y hy
  obtain ⟨hye,hyt,hyn,hk0,hk1⟩:=h
  obtain ⟨cs',hok⟩:=hS b y hy
  cases hs with
  | cown e b n c hc hsz0 =>
   by_cases hm:0<m
   ·obtain ⟨hroom,hk⟩:=hk1 hm
    obtain ⟨ad,rfl⟩:=hp hm
    have hszb:A1F w b=cs'.size:=by unfold A1F;rw [hok.heap]
    rw [hszb] at hsz0
    have hrun:=A3h (ty:=o.type) hT hr hd hq (w:=w) (b:=b) (n:=n) (c:=c) (m:=m) (qc:=qc) (ad:=ad) (us:=us) hok.heap hus1 (hus3 ad rfl) hus2 hroom hsz0
    have hsz1:(n+m) * q.size≤cs'.size:=D8r (D8c _ hroom) hsz0
    have hsz2:n * q.size+m * q.size≤cs'.size:=by rw [←D9o];exact hsz1
    have hsize:cs'.size≤(cs'.toList.take (n * q.size)++us++cs'.toList.drop (n * q.size+us.length)).toArray.size:=by simp [hus1];omega
    have he:=Evo.setRow (y:=⟨el,q.size,c,fun i=>if n≤i∧i<n+m then f (i - n) else y.f i⟩) hy hok.heap hsize
    have hcells:∀ i,i<c→(cellsOf ((fun i=>if n≤i∧i<n+m then f (i - n) else y.f i) i)).length=q.size∧(cellsOf ((fun i=>if n≤i∧i<n+m then f (i - n) else y.f i) i)).all AV.one=true:=fun i hi=>by
     simp only
     split
     ·exact hcf _ (by omega)
     ·exact ⟨by rw [←hye];exact hok.len i (by omega),hok.one i (by omega)⟩
    have hnew:A2G (w.setRow b (cs'.toList.take (n * q.size)++us++cs'.toList.drop (n * q.size+us.length)).toArray) (upd st b ⟨el,q.size,c,fun i=>if n≤i∧i<n+m then f (i - n) else y.f i⟩) b ⟨el,q.size,c,fun i=>if n≤i∧i<n+m then f (i - n) else y.f i⟩
      (cs'.toList.take (n * q.size)++us++cs'.toList.drop (n * q.size+us.length)).toArray:=by
     refine ⟨by rw [Y3 hok.heap,hyt],D8r hsz0 hsize,fun i hi=>(hcells i hi).1,fun i hi=>(hcells i hi).2,fun i j z hi hz=>?_⟩
     have hi:i<c:=hi
     have hj:j<q.size:=by rw [←(hcells i hi).1];exact (D7w.1 hz).1
     show ∃ u,_[i * q.size+j]?=some u∧_
     simp only [List.getElem?_toArray] at hz ⊢
     have hl1:(cs'.toList.take (n * q.size)).length=n * q.size:=by rw [D7n,Array.length_toList];omega
     split at hz
     ·rename_i hin
      obtain ⟨u,hu1,hu2⟩:=hus4 (i - n) j z (by omega) hz
      refine ⟨u,?_,he.rep hu2⟩
      have hge2:n * q.size≤i * q.size:=D8c _ (by omega)
      have hlt:=A0d (show i - n<m by omega) hj
      rw [Nat.sub_mul] at hlt
      rw [D8z,D7A (by rw [hl1];omega),hl1,D7B (by rw [hus1];omega),←hu1]
      congr 1
      rw [Nat.sub_mul];omega
     ·rename_i hin
      obtain ⟨u,hu1,hu2⟩:=hok.cell i j z (by omega) hz
      refine ⟨u,?_,he.rep hu2⟩
      rw [hye] at hu1
      rcases D8E i n with hlt | hge
      ·have hlt2:i * q.size+j<n * q.size:=A0d hlt hj
       rw [D8z,D7B (by rw [hl1];exact hlt2),D7r hlt2,D7T];exact hu1
      ·have hge2:(n+m) * q.size≤i * q.size:=D8c _ (by omega)
       rw [D9o] at hge2
       rw [D7A (by rw [D7p,hl1,hus1];omega),D8J,←hu1,←D7T]
       congr 1
       rw [D7p,hl1,hus1];omega
    exact ⟨_,_,_,_,hk,hrun,.cown _ _ _ _ hroom (by unfold A1F;rw [Y3 hok.heap];exact D8r hsz0 hsize),hS.setRow hy hok.heap hsize hnew,he⟩
   ·obtain rfl:m=0:=by omega
    have hrun:=A3b (ty:=o.type) (w:=w) hT hr hd hq (some ⟨b,0,none⟩) n c hc p qc
    exact ⟨_,_,st,w,hk0 rfl,hrun,.cown _ _ _ _ hc hsz0,hS,Evo.refl _ _⟩
 ·exact h.elim
end Go.Ab
