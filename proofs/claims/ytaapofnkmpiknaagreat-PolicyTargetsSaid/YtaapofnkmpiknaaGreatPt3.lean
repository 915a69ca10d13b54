/- Part 3 of the proof: contracts -/
import Derived.Test.YtaapofnkmpiknaaGreatPt2
set_option linter.unusedVariables false
set_option linter.unusedSimpArgs false
namespace Go.Ab
open Go
theorem A8t (a:Addr) (x y:Nat):(a.add x).add y=a.add (x+y):=by
 unfold Addr.add
 by_cases hx:x=0<;>by_cases hy:y=0<;>simp [hx,hy,D9M]
theorem I8 {P:Program} {o:Oper} {a:Act} {st:St} {w:World} {k:KK} {next:Act→World→Prop} {Q:Exit→Act→World→Prop} {c:Value} {v:AV}
  (hrun:(execOp a.eval o).run P w=.ok (.value c) w) (hS:H9 st w) (hv:K8 w st v c) (hk:k v st) (hn:Nxt st w k a o.dst next):o.wp P a w next Q:=by
 unfold Oper.wp;rw [hrun];exact hn.same hS hk hv
def A1w (T:H5) (s:TypeId) (p:AV) (f:Nat) (k:AV→Prop):Prop :=
 match T s with
 | none=>False
 | some r=>match r.desc with
  | .struct fs=>match fs[f]? with
   | none=>False
   | some fl=>match T fl.type with
    | none=>False
    | some q=>0<q.size∧match p with
     | .fptr v o=>k (.fptr v (o+fl.offset))
     | .optr e b i o=>k (.optr e b i (o+fl.offset))
     | _=>False
  | _=>False
theorem B5J {P:Program} {T:H5} (hT:TOk P T) {o:Oper} {A:List AV} {a:Act} {st:St} {w:World} {s:TypeId} {x:Operand} {f:Nat} {k:KK} {next:Act→World→Prop} {Q:Exit→Act→World→Prop}
  (ho:o.op=.fieldAddr s x f) (hA:Q0 w st A a) (hS:H9 st w) (h:A1w T s (ev A x) f (fun v=>k v st)) (hn:Nxt st w k a o.dst next):o.wp P a w next Q:=by
 unfold A1w at h
 split at h
 ·exact h.elim
 rename_i r hr
 split at h
 case h_2=>exact h.elim
 rename_i fs hd
 split at h
 ·exact h.elim
 rename_i fl hf
 split at h
 ·exact h.elim
 rename_i q hq
 obtain ⟨hq0,h⟩:=h
 have hx:=I2 hA x
 have hund:=TOk.und hT hr w
 have hsz:=TOk.sizeOf hT hq w
 rw [hd] at hund
 suffices hmain:∃ ad v,a.eval x=.pointer (some ad)∧k v st∧K8 w st v (.pointer (some (ad.add fl.offset))) by
  obtain ⟨ad,v,h1,h2,h3⟩:=hmain
  refine I8 (c:=.pointer (some (ad.add fl.offset))) ?_ hS h3 h2 hn
  simp only [execOp,ho,h1,Instr.fieldAt,Sem.run_bind,hund,Result.andThen_ok,hf,Instr.sureAddr,Sem.run_pure,fieldPlace,hsz,if_neg (by omega:¬ q.size=0)]
 generalize a.eval x=p at hx
 generalize ev A x=v at h hx
 cases hx with
 | fptr v o ad g hr' hg'=>exact ⟨ad.add o,_,rfl,h,by rw [A8t];exact .fptr v _ ad g hr' hg'⟩
 | optr e b i o=>exact ⟨_,_,rfl,h,by rw [Addr.add_lit,D9M];exact .optr e b i _⟩
 | _=>exact h.elim
def A2r (T:H5) (t:TypeId) (p i:AV) (k:AV→Prop):Prop :=
 match T t with
 | none=>False
 | some r=>match r.desc with
  | .slice el=>match T el with
   | none=>False
   | some q=>match i with
    | .int _ j=>match p with
     | .arr e n f=>q.size=e∧(0≤j∧j<n)∧k (.fptr (f j.toNat) 0)
     | .own e b off n=>q.size=e∧(0≤j∧j<n)∧k (.optr e b (off+j.toNat) 0)
     | .cown e b n c=>q.size=e∧(0≤j∧j<n)∧k (.optr e b j.toNat 0)
     | _=>False
    | _=>False
  | .array n el=>match T el with
   | none=>False
   | some q=>match i with
    | .int _ j=>(0≤j∧j<n)∧match p with
     | .fptr v o=>k (.fptr v (o+j.toNat * q.size))
     | .optr e b i o=>k (.optr e b i (o+j.toNat * q.size))
     | _=>False
    | _=>False
  | _=>False
theorem B5K {P:Program} {T:H5} (hT:TOk P T) {o:Oper} {A:List AV} {a:Act} {st:St} {w:World} {t:TypeId} {x i:Operand} {k:KK} {next:Act→World→Prop} {Q:Exit→Act→World→Prop}
  (ho:o.op=.indexAddr t x i) (hA:Q0 w st A a) (hS:H9 st w) (h:A2r T t (ev A x) (ev A i) (fun v=>k v st)) (hn:Nxt st w k a o.dst next):o.wp P a w next Q:=by
 unfold A2r at h
 split at h
 ·exact h.elim
 rename_i r hr
 have hund:=TOk.und hT hr w
 have hx:=I2 hA x
 have hi:=I2 hA i
 split at h
 case h_3=>exact h.elim
 ·rename_i el hd
  rw [hd] at hund
  split at h
  ·exact h.elim
  rename_i q hq
  have hsz:=TOk.sizeOf hT hq w
  split at h
  case h_2=>exact h.elim
  rename_i kk j hij
  rw [hij] at hi
  generalize hiv:a.eval i=iv at hi
  cases hi
  suffices hmain:∃ ad v n c,a.eval x=.slice (some ad) n c∧(0≤j∧j<(n:Int))∧k v st∧K8 w st v (.pointer (some (ad.add (j.toNat * q.size)))) by
   obtain ⟨ad,v,n,c,h1,hb,h2,h3⟩:=hmain
   refine I8 (c:=.pointer (some (ad.add (j.toNat * q.size)))) ?_ hS h3 h2 hn
   simp only [execOp,ho,h1,hiv,Instr.indexAt,asIntOf,Sem.run_bind,hund,Result.andThen_ok,Sem.run_pure]
   rw [if_pos hb]
   simp only [Sem.run_bind,hsz,Result.andThen_ok,Sem.run_pure]
  generalize a.eval x=p at hx
  generalize ev A x=v at h hx
  cases hx with
  | arr e n f Ad c g hc hAd hl ho' hr' hg' =>
   obtain ⟨he,hb,hk⟩:=h
   obtain ⟨ad,rfl⟩:=hAd (by omega)
   have hj:j.toNat<n:=by omega
   refine ⟨ad,_,n,c,rfl,hb,hk,?_⟩
   have:ad.add (j.toNat * q.size)=(ad.add (j.toNat * e)).add 0:=by rw [A8t,he,D9v]
   rw [this]
   refine .fptr _ 0 _ (g j.toNat) (fun y hy=>?_) (fun y z hz=>hg' _ _ _ hj hz)
   rw [A8t];exact hr' ad rfl _ _ hj (by rw [hl _ hj] at hy;exact hy)
  | own e b off n c hc hs =>
   obtain ⟨he,hb,hk⟩:=h
   refine ⟨_,_,n,c,rfl,hb,hk,?_⟩
   rw [Addr.add_lit,he,←D9o,←D9v ((off+j.toNat) * e)]
   exact .optr e b _ 0
  | cown e b n c hc hs =>
   obtain ⟨he,hb,hk⟩:=h
   refine ⟨_,_,n,c,rfl,hb,hk,?_⟩
   rw [Addr.add_lit,he,D7o,←D9v (j.toNat * e)]
   exact .optr e b _ 0
  | _=>exact h.elim
 ·rename_i n el hd
  rw [hd] at hund
  split at h
  ·exact h.elim
  rename_i q hq
  have hsz:=TOk.sizeOf hT hq w
  split at h
  case h_2=>exact h.elim
  rename_i kk j hij
  obtain ⟨hb,h⟩:=h
  rw [hij] at hi
  generalize hiv:a.eval i=iv at hi
  cases hi
  suffices hmain:∃ ad v,a.eval x=.pointer (some ad)∧k v st∧K8 w st v (.pointer (some (ad.add (j.toNat * q.size)))) by
   obtain ⟨ad,v,h1,h2,h3⟩:=hmain
   refine I8 (c:=.pointer (some (ad.add (j.toNat * q.size)))) ?_ hS h3 h2 hn
   simp only [execOp,ho,h1,hiv,Instr.indexAt,asIntOf,Sem.run_bind,hund,Result.andThen_ok,Sem.run_pure,Instr.sureAddr]
   rw [if_pos hb]
   simp only [Sem.run_bind,hsz,Result.andThen_ok,Sem.run_pure]
  generalize a.eval x=p at hx
  generalize ev A x=v at h hx
  cases hx with
  | fptr v o ad g hr' hg'=>exact ⟨ad.add o,_,rfl,h,by rw [A8t];exact .fptr v _ ad g hr' hg'⟩
  | optr e b i o=>exact ⟨_,_,rfl,h,by rw [Addr.add_lit,D9M];exact .optr e b i _⟩
  | _=>exact h.elim
def A7K (T:H5) (s:TypeId) (v:AV) (f:Nat) (k:AV→Prop):Prop :=
 match T s with
 | none=>False
 | some r=>match r.desc with
  | .struct fs=>match fs[f]? with
   | none=>False
   | some fl=>match T fl.type with
    | none=>False
    | some q=>match v with
     | .agg cs=>pick q cs fl.offset k
     | _=>False
  | _=>False
theorem C5E {P:Program} {T:H5} (hT:TOk P T) {o:Oper} {A:List AV} {a:Act} {st:St} {w:World} {s:TypeId} {x:Operand} {f:Nat} {k:KK} {next:Act→World→Prop} {Q:Exit→Act→World→Prop}
  (ho:o.op=.field s x f) (hA:Q0 w st A a) (hS:H9 st w) (h:A7K T s (ev A x) f (fun v=>k v st)) (hn:Nxt st w k a o.dst next):o.wp P a w next Q:=by
 unfold A7K at h
 split at h
 ·exact h.elim
 rename_i r hr
 split at h
 case h_2=>exact h.elim
 rename_i fs hd
 split at h
 ·exact h.elim
 rename_i fl hf
 split at h
 ·exact h.elim
 rename_i q hq
 have hx:=I2 hA x
 have hund:=TOk.und hT hr w
 rw [hd] at hund
 have hag:=TOk.isAgg hT hq w
 have hsz:=TOk.sizeOf hT hq w
 split at h
 case h_2=>exact h.elim
 rename_i cs hcs
 rw [hcs] at hx
 generalize hxv:a.eval x=xv at hx
 cases hx with
 | agg cs vs hl hg =>
  unfold pick at h
  cases hagg:q.agg with
  | true =>
   rw [hagg] at h
   obtain ⟨hlen,hk⟩:=h
   refine I8 (c:=.agg (vs.extract fl.offset (fl.offset+q.size))) (v:=.agg ((cs.drop fl.offset).take q.size)) ?_ hS ?_ hk hn
   ·simp only [execOp,ho,hxv,Instr.field,Sem.run_bind,hund,Result.andThen_ok,hf,asAgg,Sem.run_pure,part,hag,hagg,if_true,hsz]
   ·refine .agg _ _ (by simp;omega) fun j y c hy hc=>?_
    have hj:j<q.size:=by
     rcases D8E j q.size with h | h
     ·exact h
     ·rw [List.getElem?_take,if_neg (by omega)] at hy;cases hy
    rw [D7r hj,D8J] at hy
    refine hg (fl.offset+j) y c hy ?_
    rw [←hc,Array.getElem?_extract]
    have:=(D7w.1 hy).1
    rw [if_pos (by omega)]
  | false =>
   rw [hagg] at h
   cases hy:cs[fl.offset]? with
   | none=>rw [hy] at h;exact h.elim
   | some y =>
    rw [hy] at h
    have hlt:fl.offset<vs.size:=by rw [←hl];exact (D7w.1 hy).1
    refine I8 (c:=vs[fl.offset]) (v:=y) ?_ hS (hg _ _ _ hy (D7x hlt)) h hn
    simp only [execOp,ho,hxv,Instr.field,Sem.run_bind,hund,Result.andThen_ok,hf,asAgg,Sem.run_pure,part,hag,hagg,D8Y,D9L,D7x hlt]
def A4w (v:AV) (i:Nat) (k:AV→Prop):Prop :=
 match v with
 | .tuple vs=>match vs[i]? with | some y=>k y | none=>False
 | _=>False
theorem B9B {P:Program} {o:Oper} {A:List AV} {a:Act} {st:St} {w:World} {x:Operand} {i:Nat} {k:KK} {next:Act→World→Prop} {Q:Exit→Act→World→Prop}
  (ho:o.op=.extract x i) (hA:Q0 w st A a) (hS:H9 st w) (h:A4w (ev A x) i (fun v=>k v st)) (hn:Nxt st w k a o.dst next):o.wp P a w next Q:=by
 unfold A4w at h
 split at h
 case h_2=>exact h.elim
 rename_i vs hvs
 split at h
 case h_2=>exact h.elim
 rename_i y hy
 have hx:=I2 hA x
 rw [hvs] at hx
 generalize hxv:a.eval x=xv at hx
 cases hx with
 | tuple cs us hl hg =>
  have hlt:i<us.size:=by rw [←hl];exact (D7w.1 hy).1
  refine I8 (c:=us[i]) (v:=y) ?_ hS (hg _ _ _ hy (D7x hlt)) h hn
  simp only [execOp,ho,hxv,Instr.extract,Sem.run_bind,D7x hlt,Sem.run_pure,Result.andThen_ok]
def A7L (T:H5) (t:TypeId) (v i:AV) (k:AV→Prop):Prop :=
 match T t with
 | none=>False
 | some r=>match r.desc,v,i with
  | .string,.str s,.int _ j=>∃ h:0≤j∧j.toNat<s.size,k (.int .u8 ((s[j.toNat]'h.2).toNat:Int))
  | .array n el,.agg cs,.int _ j=>match T el with
   | none=>False
   | some q=>(q.agg=false∧j.toNat * q.size<cs.length∧0≤j∧j<n)∧k (cs.getD (j.toNat * q.size) .junk)
  | _,_,_=>False
theorem C5F {P:Program} {T:H5} (hT:TOk P T) {o:Oper} {A:List AV} {a:Act} {st:St} {w:World} {t:TypeId} {x i:Operand} {k:KK} {next:Act→World→Prop} {Q:Exit→Act→World→Prop}
  (ho:o.op=.index t x i) (hA:Q0 w st A a) (hS:H9 st w) (h:A7L T t (ev A x) (ev A i) (fun v=>k v st)) (hn:Nxt st w k a o.dst next):o.wp P a w next Q:=by
 unfold A7L at h
 split at h
 ·exact h.elim
 rename_i r hr
 have hund:=TOk.und hT hr w
 have hx:=I2 hA x
 have hi:=I2 hA i
 split at h
 case h_3=>exact h.elim
 case h_2 =>
  rename_i n el cs kk j hd hv hij
  split at h
  ·exact h.elim
  rename_i q hq
  obtain ⟨⟨hagg,hlen,h0,h1⟩,hk⟩:=h
  have hag:=TOk.isAgg hT hq w
  have hsz:=TOk.sizeOf hT hq w
  rw [hd] at hund
  rw [hv] at hx
  rw [hij] at hi
  generalize hxv:a.eval x=xv at hx
  generalize hiv:a.eval i=iv at hi
  cases hx with
  | agg cs vs hl hg =>
   cases hi
   have hlt:j.toNat * q.size<vs.size:=by omega
   have hy:cs[j.toNat * q.size]?=some (cs.getD (j.toNat * q.size) .junk):=by rw [D7c,D7k hlen];rfl
   refine I8 (c:=vs[j.toNat * q.size]) (v:=cs.getD (j.toNat * q.size) .junk) ?_ hS (hg _ _ _ hy (D7x hlt)) hk hn
   simp only [execOp,ho,hxv,hiv,Instr.index,asIntOf,Sem.run_bind,Sem.run_pure,Result.andThen_ok,hund,h0,h1,and_self,if_true,hsz,part,hag,hagg,D8Y,D9L,D7x hlt]
 rename_i s kk j hd hv hij
 obtain ⟨⟨h0,h1⟩,hk⟩:=h
 rw [hd] at hund
 rw [hv] at hx
 rw [hij] at hi
 generalize hxv:a.eval x=xv at hx
 generalize hiv:a.eval i=iv at hi
 cases hx
 cases hi
 refine I8 ?_ hS (.int .u8 _) hk hn
 simp only [execOp,ho,hxv,hiv,Instr.index,asIntOf,Sem.run_bind,Sem.run_pure,Result.andThen_ok,hund,h0,if_true]
 rw [show s[j.toNat]?=some (s[j.toNat]'h1) from by simp [h1]]
 rfl
end Go.Ab
