/- Part 14 of the proof: contracts -/
import Derived.Test.YtaapofnkmpiknaaGreatPt13
set_option linter.unusedVariables false
set_option linter.unusedSimpArgs false
namespace Go.Ab
open Go
theorem ldO {T:H5} {t:TypeId} {e b i o:Nat} {st:St} {k:KK} {x:L7} {r:C0} (h:st b=some x) (hr:T t=some r) (he:e=x.e) (hi:i<x.n) (hk:A9m r (cellsOf (x.f i)) o (fun y=>k y st)):C3h T t e b i o st k:=by
 refine ⟨?_⟩
 unfold A3A
 rw [hr]
 simp only [h]
 exact ⟨he,hi,B3k hk⟩
theorem stO {T:H5} {t:TypeId} {e b i o:Nat} {v:AV} {st:St} {k:KK} {x:L7} {r:C0} (h:st b=some x) (hr:T t=some r) (he:e=x.e) (hi:i<x.n)
  (hc:(Nat.blt 0 r.size&&Nat.beq (cellsOf v).length r.size&&(cellsOf v).all AV.one&&Nat.ble (o+r.size) x.e)=true)
  (hk:k (.tuple []) (upd st b { x with f:=I6 x.f i (Q8 (x.f i) o (cellsOf v)) })):B8d T t e b i o v st k:=by
 refine ⟨?_⟩
 unfold A7M
 simp only [D7f,D9O,Nat.beq_eq,Nat.ble_eq] at hc
 obtain ⟨⟨⟨h1,h2⟩,h3⟩,h4⟩:=hc
 rw [hr]
 simp only [h]
 exact ⟨h1,he,hi,h2,h3,h4,hk⟩
theorem mkO {T:H5} {t:TypeId} {kk kk':IntKind} {n:Nat} {st:St} {k:KK} {r q:C0} {el:TypeId} (hr:T t=some r) (hd:r.desc=.slice el) (hq:T el=some q)
  (hb:q.bytes * n≤281474976710656) (hn:n≤281474976710656) (hz:(Nat.beq q.zero.cells.size q.size&&(cellsOf (I1 q.zero)).all AV.one)=true)
  (hk:∀ b,st b=none→k (.own q.size b 0 n) (upd st b ⟨el,q.size,n,fun _=>I1 q.zero⟩)):xMk T t (.int kk (n:Int)) (.int kk' (n:Int)) st k:=by
 refine ⟨?_⟩
 unfold B1r
 simp only [D7f,Nat.beq_eq] at hz
 rw [hr]
 simp only [hd,hq]
 refine .inr ⟨trivial,by omega,?_,by omega,hz.1,hz.2,by simpa using hk⟩
 have:((q.bytes * n:Nat):Int)≤281474976710656:=by omega
 rwa [Int.natCast_mul] at this
theorem apE {T:H5} {t:TypeId} {x:AV} {st:St} {k:KK} {r q:C0} {el m:Nat} {f:Nat→AV} (hr:T t=some r) (hd:r.desc=.slice el) (hq:T el=some q)
  (hz:(Nat.blt 0 q.size&&Nat.blt 0 q.bytes&&Nat.beq q.zero.cells.size q.size)=true) (hs:A0v q.size st x=some (m,f)) (hb:m * q.bytes≤140737488355328)
  (h0:m=0→k .emp st) (hk:0<m→∀ b,st b=none→k (.own q.size b 0 m) (upd st b ⟨el,q.size,m,f⟩)):A5V T t .emp x st k:=by
 refine ⟨?_⟩
 unfold A5d
 simp only [D7f,D9O,Nat.beq_eq] at hz
 rw [hr]
 simp only [hd,hq,hs]
 exact ⟨hz.1.1,hz.1.2,hz.2,h0,fun hm=>⟨hb,hk hm⟩⟩
theorem apO {T:H5} {t:TypeId} {x:AV} {st:St} {k:KK} {r q:C0} {el m b n:Nat} {f:Nat→AV} {y:L7} (hr:T t=some r) (hd:r.desc=.slice el) (hq:T el=some q)
  (hz:(Nat.blt 0 q.size&&Nat.blt 0 q.bytes&&Nat.beq q.zero.cells.size q.size)=true) (hs:A0v q.size st x=some (m,f)) (hy:st b=some y) (hye:y.e=q.size) (hyt:y.ty=el) (hyn:y.n=n) (hb:(n+m) * q.bytes≤140737488355328)
  (h0:m=0→k (.own q.size b 0 n) st) (hk:0<m→∀ b',(b'=b∨st b'=none)→k (.own q.size b' 0 (n+m)) (upd (del st b) b' ⟨el,q.size,n+m,fun i=>if i<n then y.f i else f (i - n)⟩)):A5V T t (.own q.size b 0 n) x st k:=by
 refine ⟨?_⟩
 unfold A5d
 simp only [D7f,D9O,Nat.beq_eq] at hz
 rw [hr]
 simp only [hd,hq,hs,hy]
 exact ⟨hz.1.1,hz.1.2,hz.2,trivial,trivial,hye,hyt,hyn,h0,fun hm=>⟨hb,hk hm⟩⟩
theorem A3P (e m:Nat) (f:Nat→AV) (st:St):A0v e st (.arr e m f)=some (m,f):=by simp [A0v]
theorem D0r {e b off m:Nat} {st:St} {y:L7} (hy:st b=some y) (he:y.e=e) (hm:off+m≤y.n):A0v e st (.own e b off m)=some (m,fun i=>y.f (off+i)):=by simp [A0v,hy,he,hm]
theorem Rep.arr_congr {rd:Addr→Option Value} {sz:Nat→Nat} {e n:Nat} {f g:Nat→AV} {c:Value} (hfg:∀ i,i<n→f i=g i) (h:Rep rd sz (.arr e n f) c):Rep rd sz (.arr e n g) c:=by
 cases h with
 | arr e n f A c q hc hA hl ho hr hg=>exact .arr e n g A c q hc hA (fun i hi=>by rw [←hfg i hi];exact hl i hi) (fun i hi=>by rw [←hfg i hi];exact ho i hi) hr (fun i j y hi hy=>hg i j y hi (by rw [hfg i hi];exact hy))
theorem B1N {w:World} {st:St} {e b off n:Nat} {y:L7} {c:Value} (hS:H9 st w) (hy:st b=some y) (he:y.e=e) (hn:off+n≤y.n) (h:K8 w st (.own e b off n) c) :
  H9 (del st b) w∧Evo st w (del st b) w∧K8 w (del st b) (.arr e n (fun i=>y.f (off+i))) c:=by
 have hev:Evo st w (del st b) w:=⟨rfl,rfl,rfl,D7l _,fun c _ hs=>⟨rfl,by unfold del;split;rfl;exact hs⟩,fun _=>D7l _⟩
 have hdel:del st b b=none:=by simp [del]
 obtain ⟨cs,hok⟩:=hS b y hy
 refine ⟨fun c z hz=>?_,hev,?_⟩
 ·unfold del at hz
  split at hz
  ·cases hz
  ·obtain ⟨ds,hd⟩:=hS c z hz
   exact ⟨ds,hd.evo hev rfl⟩
 ·cases h with
  | own e b off n c hc hs =>
   have:=B1x (hok.evo hev rfl) hdel off n hn c hc
   rw [he] at this;exact this
theorem B4Y {rd:Addr→Option Value} {sz:Nat→Nat} {c:Value} (e:Nat) (f:Nat→AV) (h:Rep rd sz .emp c):Rep rd sz (.arr e 0 f) c:=by
 cases h with
 | emp A=>exact .arr e 0 f A 0 (fun _ _=>undef) (D7l _) (fun h=>absurd h (by omega)) (fun i hi=>absurd hi (by omega)) (fun i hi=>absurd hi (by omega)) (fun _ _ i j hi=>absurd hi (by omega)) (fun i j y hi=>absurd hi (by omega))
theorem A7.one {v v':AV} {st st':St} (h:∀ w c,H9 st w→K8 w st v c→H9 st' w∧Evo st w st' w∧K8 w st' v' c):A7 [v] st [v'] st':=fun w cs hS hR=>by
 obtain ⟨hl,hr⟩:=hR
 have hlt:0<cs.size:=by rw [←hl];exact Nat.one_pos
 obtain ⟨h1,h2,h3⟩:=h w cs[0] hS (hr 0 v cs[0] rfl (D7x hlt))
 refine ⟨h1,⟨hl,fun j y c hy hc=>?_⟩,h2⟩
 cases j with
 | zero=>simp at hy;subst hy;rw [D7x hlt] at hc;cases hc;exact h3
 | succ j=>simp at hy
theorem P1 {st:St} {e b n:Nat} {y:L7} {f:Nat→AV} (hy:st b=some y) (he:y.e=e) (hn:n≤y.n) (hf:∀ i,i<n→y.f i=f i):A7 [.own e b 0 n] st [.arr e n f] (del st b) :=
 A7.one fun w c hS hr=>by
  obtain ⟨h1,h2,h3⟩:=B1N hS hy he (by omega) hr
  exact ⟨h1,h2,Rep.arr_congr (fun i hi=>by simpa using hf i hi) h3⟩
theorem I5 {st:St} (e:Nat) (f:Nat→AV):A7 [.emp] st [.arr e 0 f] st:=A7.one fun w c hS hr=>⟨hS,Evo.refl _ _,B4Y e f hr⟩
theorem A7.tuple {a b:List AV} {st st':St} (h:A7 a st b st') (hl:a.length=b.length):A7 [.tuple a] st [.tuple b] st':=A7.one fun w c hS hr=>by
 cases hr with
 | tuple cs vs hlen hg =>
  obtain ⟨h1,h2,h3⟩:=h w vs hS ⟨hlen,hg⟩
  exact ⟨h1,h3,.tuple _ _ h2.1 h2.2⟩
theorem A7.cons {v v':AV} {a b:List AV} {s t u:St} (h1:A7 [v] s [v'] t) (h2:A7 a t b u):A7 (v::a) s (v'::b) u:=fun w cs hS hR=>by
 obtain ⟨hl,hr⟩:=hR
 have hlt:0<cs.size:=by rw [←hl];simp
 obtain ⟨k1,k2,k3⟩:=h1 w #[cs[0]] hS ⟨rfl,fun j y c hy hc=>by
  cases j with
  | zero=>simp at hy hc;subst hy;subst hc;exact hr 0 v cs[0] rfl (D7x hlt)
  | succ j=>simp at hy⟩
 obtain ⟨m1,m2,m3⟩:=h2 w (cs.extract 1 cs.size) k1 ⟨by simp at hl ⊢;omega,fun j y c hy hc=>by
  rw [Array.getElem?_extract] at hc
  split at hc
  ·exact k3.rep (hr (j+1) y c (by simpa using hy) (by rw [←hc];congr 1;omega))
  ·cases hc⟩
 refine ⟨m1,⟨?_,fun j y c hy hc=>?_⟩,k3.trans m3⟩
 ·have:=m2.1;simp at this hl ⊢;omega
 ·cases j with
  | zero =>
   simp at hy;subst hy
   rw [D7x hlt] at hc;cases hc
   exact m3.rep (k2.2 0 v' cs[0] rfl rfl)
  | succ j =>
   refine m2.2 j y c (by simpa using hy) ?_
   rw [Array.getElem?_extract,if_pos,←hc]
   ·congr 1;omega
   ·have:=(D8b.1 hc).1;omega
theorem A7.keep (a:List AV) (st:St):A7 a st a st:=A7.refl a st
theorem A7.nil (st:St):A7 [] st [] st:=A7.refl _ _
def F8 (st st':St):Prop:=∀ b x,st b=some x→st' b=some x
theorem F8.refl (st:St):F8 st st:=fun _ _ h=>h
theorem F8.trans {a b c:St} (h:F8 a b) (k:F8 b c):F8 a c:=fun i x hx=>k i x (h i x hx)
theorem F8.upd {st st':St} {b:Nat} {x:L7} (h:F8 st st') (hb:st' b=none):F8 st (upd st' b x):=fun i y hy=>by
 have:=h i y hy
 have hn:i≠b:=fun e=>by rw [e,hb] at this;cases this
 rw [B0 hn];exact this
theorem F8.over {st st':St} {b:Nat} {x:L7} (h:F8 st st') (hb:st b=none):F8 st (Ab.upd st' b x):=fun i y hy=>by
 have hn:i≠b:=fun e=>by rw [e,hb] at hy;cases hy
 rw [B0 hn];exact h i y hy
theorem F8.del {st st':St} {b:Nat} (h:F8 st st') (hb:st b=none):F8 st (Ab.del st' b):=fun i y hy=>by
 have hn:i≠b:=fun e=>by rw [e,hb] at hy;cases hy
 unfold Ab.del;rw [if_neg hn];exact h i y hy
theorem F8.none {st st':St} (h:F8 st st') {b:Nat} (hb:st' b=none):st b=none:=by
 cases hc:st b with
 | none=>rfl
 | some x=>rw [h b x hc] at hb;cases hb
theorem F8.shift {st st':St} (h:F8 st st') (vs:List AV):A7 vs st' vs st:=fun w cs hS hR=>by
 have hrd:∀ a v,A3N w st' a=some v→A3N w st a=some v:=fun a v hv=>by
  unfold A3N at *
  split at hv
  ·rename_i hn;rw [h.none hn];exact hv
  ·cases hv
 refine ⟨fun b x hb=>?_,⟨hR.1,fun j y c hy hc=>(hR.2 j y c hy hc).mono hrd (fun _=>D7l _)⟩,⟨rfl,rfl,rfl,D7l _,fun b _ hb=>⟨rfl,h.none hb⟩,fun _=>D7l _⟩⟩
 obtain ⟨ds,hk⟩:=hS b x (h b x hb)
 exact ⟨ds,hk.heap,hk.size,hk.len,hk.one,fun i j y hi hy=>by
  obtain ⟨c,h1,h2⟩:=hk.cell i j y hi hy
  exact ⟨c,h1,h2.mono hrd (fun _=>D7l _)⟩⟩
theorem A0g {P:Program} {f:FuncId} {args:List AV} {st:St} {q:AV→Prop} (h:S P f args st fun v st'=>q v∧F8 st st'):S P f args st fun v st'=>q v∧st'=st :=
 h.post fun v st' ⟨h1,h2⟩=>⟨v,st,⟨h1,rfl⟩,h2.shift [v]⟩
theorem B2g {A:List AV} {st:St} (keep:List Nat) {B:List Nat→(Nat→KA)→Nat→List AV→St→Prop} (h:A3X A keep fun us=>∀ I,B keep I 0 us st) :
  ∃ (keep:List Nat) (I:Nat→KA),(A3X A keep fun us=>∃ m,I m us st)∧∀ m vs st',I m vs st'→B keep I m vs st':=by
 rw [A2K] at h
 refine ⟨keep,fun m vs s=>m=0∧vs=keep.map (fun i=>A.getD i AV.junk)∧s=st,?_,?_⟩
 ·rw [A2K];exact ⟨0,rfl,rfl,rfl⟩
 ·rintro m vs s ⟨rfl,rfl,rfl⟩
  exact h _
theorem A4 {x:Int} (h1 : -9223372036854775808≤x) (h2:x≤9223372036854775807):IntKind.i64.wrap x=x:=by
 rw [IntKind.wrap_i64];omega
theorem B4 {i:Nat} (h:i<9223372036854775807):IntKind.i64.wrap ((i:Int)+1)=((i+1:Nat):Int):=by
 rw [A4 (by omega) (by omega)];omega
theorem L6 {α : Type} [Inhabited α] {l:List α} {i:Nat} (h:i<l.length):l.take (i+1)=l.take i++[l.getD i default]:=by
 rw [D9i h]
 simp [h]
theorem G8 {α β : Type} [Inhabited α] {l:List α} {i:Nat} (h:i<l.length) (g : β→α→β) (b : β):(l.take (i+1)).foldl g b=g ((l.take i).foldl g b) (l.getD i default):=by
 rw [L6 h,D9g];rfl
theorem A7.arr {e n:Nat} {f g:Nat→AV} {st:St} (h:∀ i,i<n→f i=g i):A7 [.arr e n f] st [.arr e n g] st :=
 A7.one fun w c hS hr=>⟨hS,Evo.refl _ _,hr.arr_congr h⟩
end Go.Ab
