/- Part 17 of the proof: contracts -/
import Derived.Test.YtaapofnkmpiknaaGreatPt16
set_option linter.unusedVariables false
set_option linter.unusedSimpArgs false
namespace Go.Ab
open Go
theorem ldV {T:H5} {t:TypeId} {e b i o ty n:Nat} {st:St} {k:KK} {r:C0} {f:Nat→AV} {v:AV} (h:st b=some ⟨ty,e,n,f⟩) (hr:T t=some r) (hi:i<n) (hv:f i=v) (hk:A9m r (cellsOf v) o (fun y=>k y st)):C3h T t e b i o st k :=
 ldO h hr rfl hi (by rw [show (L7.mk ty e n f).f i=v from hv];exact hk)
theorem stV {T:H5} {t:TypeId} {e b i o ty n:Nat} {u v:AV} {st:St} {k:KK} {r:C0} {f:Nat→AV} (h:st b=some ⟨ty,e,n,f⟩) (hr:T t=some r) (hi:i<n) (hv:f i=v)
  (hc:(Nat.blt 0 r.size&&Nat.beq (cellsOf u).length r.size&&(cellsOf u).all AV.one&&Nat.ble (o+r.size) e)=true)
  (hk:k (.tuple []) (upd st b ⟨ty,e,n,I6 f i (Q8 v o (cellsOf u))⟩)):B8d T t e b i o u st k:=by
 refine stO h hr rfl hi hc ?_
 rw [show (L7.mk ty e n f).f i=v from hv]
 exact hk
theorem A6 (f:Nat→AV) (i:Nat) (v:AV):I6 f i v i=v:=by simp [I6]
theorem H7 {f:Nat→AV} {i j:Nat} {v:AV} (h:j≠i):I6 f i v j=f j:=by simp [I6,h]
def Col (ty e:Nat) (f:Nat→AV) (st:St) (n:Nat) (sv:AV) (st':St):Prop :=
 (n=0∧sv=.emp∧st'=st)∨(0<n∧∃ b g,st b=none∧sv=.own e b 0 n∧st'=upd st b ⟨ty,e,n,g⟩∧∀ k,k<n→g k=f k)
theorem Col.start (ty e:Nat) (f:Nat→AV) (st:St):Col ty e f st 0 .emp st:=.inl ⟨rfl,rfl,rfl⟩
theorem Col.congr {ty e:Nat} {f f':Nat→AV} {st:St} {n:Nat} {sv:AV} {st':St} (h:Col ty e f st n sv st') (hf:∀ k,k<n→f k=f' k):Col ty e f' st n sv st':=by
 rcases h with h | ⟨h0,b,g,h1,h2,h3,h4⟩
 ·exact .inl h
 ·exact .inr ⟨h0,b,g,h1,h2,h3,fun k hk=>(h4 k hk).trans (hf k hk)⟩
theorem Col.app {T:H5} {t:TypeId} {x sv:AV} {st st':St} {k:KK} {r q:C0} {el n:Nat} {f g:Nat→AV} (hr:T t=some r) (hd:r.desc=.slice el) (hq:T el=some q)
  (hz:(Nat.blt 0 q.size&&Nat.blt 0 q.bytes&&Nat.beq q.zero.cells.size q.size)=true) (hs:A0v q.size st' x=some (1,g)) (hg:g 0=f n) (hb:(n+1) * q.bytes≤140737488355328)
  (hc:Col el q.size f st n sv st') (hk:∀ sv' st'',Col el q.size f st (n+1) sv' st''→k sv' st''):A5V T t sv x st' k:=by
 rcases hc with ⟨rfl,rfl,rfl⟩ | ⟨h0,b,y,h1,rfl,rfl,h4⟩
 ·refine apE hr hd hq hz hs (by omega) (fun h=>by omega) (fun _ b hb=>hk _ _ (.inr ⟨by omega,b,g,hb,rfl,rfl,fun k hk=>?_⟩))
  have:k=0:=by omega
  subst this;exact hg
 ·refine apO hr hd hq hz hs (A0 ..) rfl rfl rfl hb (fun h=>by omega) (fun _ b' hb'=>?_)
  rw [A3W h1]
  have hb'':st b'=none:=by
   rcases hb' with rfl | h
   ·exact h1
   ·by_cases e:b'=b
    ·subst e;exact h1
    ·rw [B0 e] at h;exact h
  refine hk _ _ (.inr ⟨by omega,b',_,hb'',rfl,rfl,fun k hk=>?_⟩)
  by_cases hkn:k<n
  ·simp only [hkn,if_true];exact h4 k hkn
  ·have:k=n:=by omega
   subst this
   simp only [hkn,D9L,Nat.sub_self];exact hg
theorem Col.apps {T:H5} {t:TypeId} {x sv:AV} {st st':St} {k:KK} {r q:C0} {el n m:Nat} {f g:Nat→AV} (hr:T t=some r) (hd:r.desc=.slice el) (hq:T el=some q)
  (hz:(Nat.blt 0 q.size&&Nat.blt 0 q.bytes&&Nat.beq q.zero.cells.size q.size)=true) (hs:A0v q.size st' x=some (m,g)) (hg:∀ i,i<m→g i=f (n+i)) (hb:(n+m) * q.bytes≤140737488355328)
  (hc:Col el q.size f st n sv st') (hk:∀ sv' st'',Col el q.size f st (n+m) sv' st''→k sv' st''):A5V T t sv x st' k:=by
 rcases hc with ⟨rfl,rfl,rfl⟩ | ⟨h0,b,y,h1,rfl,rfl,h4⟩
 ·refine apE hr hd hq hz hs (by simpa using hb) (fun h=>hk _ _ (.inl ⟨by omega,rfl,rfl⟩)) (fun hm b hb=>?_)
  have e:0+m=m:=D7o m
  refine hk _ _ ?_
  rw [e]
  exact .inr ⟨hm,b,g,hb,rfl,rfl,fun k hk=>by have:=hg k hk;rwa [D7o] at this⟩
 ·refine apO hr hd hq hz hs (A0 ..) rfl rfl rfl hb (fun h=>hk _ _ ?_) (fun _ b' hb'=>?_)
  ·subst h;exact .inr ⟨h0,b,y,h1,rfl,rfl,h4⟩
  rw [A3W h1]
  have hb'':st b'=none:=by
   rcases hb' with rfl | h
   ·exact h1
   ·by_cases e:b'=b
    ·subst e;exact h1
    ·rw [B0 e] at h;exact h
  refine hk _ _ (.inr ⟨by omega,b',_,hb'',rfl,rfl,fun k hk=>?_⟩)
  by_cases hkn:k<n
  ·simp only [hkn,if_true];exact h4 k hkn
  ·simp only [hkn,D9L]
   have:=hg (k - n) (by omega)
   rw [this];congr 1;omega
theorem Col.shift {ty e:Nat} {f:Nat→AV} {st:St} {n:Nat} {sv:AV} {st':St} (h:Col ty e f st n sv st'):A7 [sv] st' [.arr e n f] st:=by
 rcases h with ⟨rfl,rfl,rfl⟩ | ⟨h0,b,g,h1,rfl,rfl,h4⟩
 ·exact I5 e f
 ·have:=P1 (st:=upd st b ⟨ty,e,n,g⟩) (e:=e) (b:=b) (n:=n) (f:=f) (A0 ..) rfl (D7l _) h4
  rw [A3W h1] at this;exact this
theorem Col.sup {ty e:Nat} {f:Nat→AV} {st:St} {n:Nat} {sv:AV} {st':St} (h:Col ty e f st n sv st'):F8 st st':=by
 rcases h with ⟨rfl,rfl,rfl⟩ | ⟨h0,b,g,h1,rfl,rfl,h4⟩
 ·exact F8.refl _
 ·exact (F8.refl st).upd h1
theorem C3t {P:Program} {F:FuncId} {args:List AV} {st:St} {ty e n:Nat} {f:Nat→AV} (h:S P F args st fun v st'=>Col ty e f st n v st'):S P F args st fun v st'=>v=.arr e n f∧st'=st :=
 h.post fun v st' hc=>⟨.arr e n f,st,⟨rfl,rfl⟩,hc.shift⟩
theorem D4 {α β : Type} [Inhabited α] [Inhabited β] (g : α→β) (l:List α) {i:Nat} (h:i<l.length):(l.map g).getD i default=g (l.getD i default):=by
 simp [D7c,h]
theorem B1w {n:Nat} {p:Nat→Bool} (h:∀ k,k<n→p k=true):(List.range n).all p=true:=D7s.2 fun k hk=>h k (D7t.1 hk)
end Go.Ab
