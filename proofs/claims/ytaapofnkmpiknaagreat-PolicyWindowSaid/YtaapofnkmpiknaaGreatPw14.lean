/- Part 14 of the proof: contracts of the functions that the law reaches -/
import Derived.Test.YtaapofnkmpiknaaGreatPw13
set_option linter.unusedVariables false
set_option linter.unusedSimpArgs false
namespace Go.Ab
open Go
theorem ldO {T:C7} {t:TypeId} {e b i o:Nat} {st:St} {k:KK} {x:H1} {r:B5} (h:st b=some x) (hr:T t=some r) (he:e=x.e) (hi:i<x.n) (hk:A5d r (A2 (x.f i)) o (fun y=>k y st)):B6g T t e b i o st k:=by
 refine ⟨?_⟩
 unfold A0n
 rw [hr]
 simp only [h]
 exact ⟨he,hi,A8e hk⟩
theorem stO {T:C7} {t:TypeId} {e b i o:Nat} {v:AV} {st:St} {k:KK} {x:H1} {r:B5} (h:st b=some x) (hr:T t=some r) (he:e=x.e) (hi:i<x.n)
  (hc:(Nat.blt 0 r.size&&Nat.beq (A2 v).length r.size&&(A2 v).all AV.one&&Nat.ble (o+r.size) x.e)=true)
  (hk:k (.tuple []) (upd st b { x with f:=G8 x.f i (I5 (x.f i) o (A2 v)) })):B2a T t e b i o v st k:=by
 refine ⟨?_⟩
 unfold A3R
 simp only [C9l,D1s,Nat.beq_eq,Nat.ble_eq] at hc
 obtain ⟨⟨⟨h1,h2⟩,h3⟩,h4⟩:=hc
 rw [hr]
 simp only [h]
 exact ⟨h1,he,hi,h2,h3,h4,hk⟩
theorem mkO {T:C7} {t:TypeId} {kk kk':IntKind} {n:Nat} {st:St} {k:KK} {r q:B5} {el:TypeId} (hr:T t=some r) (hd:r.desc=.slice el) (hq:T el=some q)
  (hb:q.bytes * n≤281474976710656) (hn:n≤281474976710656) (hz:(Nat.beq q.zero.cells.size q.size&&(A2 (H4 q.zero)).all AV.one)=true)
  (hk:∀ b,st b=none→k (.own q.size b 0 n) (upd st b ⟨el,q.size,n,fun _=>H4 q.zero⟩)):xMk T t (.int kk (n:Int)) (.int kk' (n:Int)) st k:=by
 refine ⟨?_⟩
 unfold A6N
 simp only [C9l,Nat.beq_eq] at hz
 rw [hr]
 simp only [hd,hq]
 refine .inr ⟨trivial,by omega,?_,by omega,hz.1,hz.2,by simpa using hk⟩
 have:((q.bytes * n:Nat):Int)≤281474976710656:=by omega
 rwa [Int.natCast_mul] at this
theorem apE {T:C7} {t:TypeId} {x:AV} {st:St} {k:KK} {r q:B5} {el m:Nat} {f:Nat→AV} (hr:T t=some r) (hd:r.desc=.slice el) (hq:T el=some q)
  (hz:(Nat.blt 0 q.size&&Nat.blt 0 q.bytes&&Nat.beq q.zero.cells.size q.size)=true) (hs:A0C q.size st x=some (m,f)) (hb:m * q.bytes≤140737488355328)
  (h0:m=0→k .emp st) (hk:0<m→∀ b,st b=none→k (.own q.size b 0 m) (upd st b ⟨el,q.size,m,f⟩)):A8a T t .emp x st k:=by
 refine ⟨?_⟩
 unfold A1H
 simp only [C9l,D1s,Nat.beq_eq] at hz
 rw [hr]
 simp only [hd,hq,hs]
 exact ⟨hz.1.1,hz.1.2,hz.2,h0,fun hm=>⟨hb,hk hm⟩⟩
theorem apO {T:C7} {t:TypeId} {x:AV} {st:St} {k:KK} {r q:B5} {el m b n:Nat} {f:Nat→AV} {y:H1} (hr:T t=some r) (hd:r.desc=.slice el) (hq:T el=some q)
  (hz:(Nat.blt 0 q.size&&Nat.blt 0 q.bytes&&Nat.beq q.zero.cells.size q.size)=true) (hs:A0C q.size st x=some (m,f)) (hy:st b=some y) (hye:y.e=q.size) (hyt:y.ty=el) (hyn:y.n=n) (hb:(n+m) * q.bytes≤140737488355328)
  (h0:m=0→k (.own q.size b 0 n) st) (hk:0<m→∀ b',(b'=b∨st b'=none)→k (.own q.size b' 0 (n+m)) (upd (del st b) b' ⟨el,q.size,n+m,fun i=>if i<n then y.f i else f (i - n)⟩)):A8a T t (.own q.size b 0 n) x st k:=by
 refine ⟨?_⟩
 unfold A1H
 simp only [C9l,D1s,Nat.beq_eq] at hz
 rw [hr]
 simp only [hd,hq,hs,hy]
 exact ⟨hz.1.1,hz.1.2,hz.2,trivial,trivial,hye,hyt,hyn,h0,fun hm=>⟨hb,hk hm⟩⟩
theorem A7U (e m:Nat) (f:Nat→AV) (st:St):A0C e st (.arr e m f)=some (m,f):=by simp [A0C]
theorem Rep.arr_congr {rd:Addr→Option Value} {sz:Nat→Nat} {e n:Nat} {f g:Nat→AV} {c:Value} (hfg:∀ i,i<n→f i=g i) (h:Rep rd sz (.arr e n f) c):Rep rd sz (.arr e n g) c:=by
 cases h with
 | arr e n f A c q hc hA hl ho hr hg=>exact .arr e n g A c q hc hA (fun i hi=>by rw [←hfg i hi];exact hl i hi) (fun i hi=>by rw [←hfg i hi];exact ho i hi) hr (fun i j y hi hy=>hg i j y hi (by rw [hfg i hi];exact hy))
theorem B2v {w:World} {st:St} {e b off n:Nat} {y:H1} {c:Value} (hS:E0 st w) (hy:st b=some y) (he:y.e=e) (hn:off+n≤y.n) (h:G5 w st (.own e b off n) c) :
  E0 (del st b) w∧P6 st w (del st b) w∧G5 w (del st b) (.arr e n (fun i=>y.f (off+i))) c:=by
 have hev:P6 st w (del st b) w:=⟨rfl,rfl,rfl,C9q _,fun c _ hs=>⟨rfl,by unfold del;split;rfl;exact hs⟩,fun _=>C9q _⟩
 have hdel:del st b b=none:=by simp [del]
 obtain ⟨cs,hok⟩:=hS b y hy
 refine ⟨fun c z hz=>?_,hev,?_⟩
 ·unfold del at hz
  split at hz
  ·cases hz
  ·obtain ⟨ds,hd⟩:=hS c z hz
   exact ⟨ds,hd.evo hev rfl⟩
 ·cases h with
  | own e b off n c hc hs =>
   have:=A6R (hok.evo hev rfl) hdel off n hn c hc
   rw [he] at this;exact this
theorem B3F {rd:Addr→Option Value} {sz:Nat→Nat} {c:Value} (e:Nat) (f:Nat→AV) (h:Rep rd sz .emp c):Rep rd sz (.arr e 0 f) c:=by
 cases h with
 | emp A=>exact .arr e 0 f A 0 (fun _ _=>undef) (C9q _) (fun h=>absurd h (by omega)) (fun i hi=>absurd hi (by omega)) (fun i hi=>absurd hi (by omega)) (fun _ _ i j hi=>absurd hi (by omega)) (fun i j y hi=>absurd hi (by omega))
theorem A4.one {v v':AV} {st st':St} (h:∀ w c,E0 st w→G5 w st v c→E0 st' w∧P6 st w st' w∧G5 w st' v' c):A4 [v] st [v'] st':=fun w cs hS hR=>by
 obtain ⟨hl,hr⟩:=hR
 have hlt:0<cs.size:=by rw [←hl];exact Nat.one_pos
 obtain ⟨h1,h2,h3⟩:=h w cs[0] hS (hr 0 v cs[0] rfl (C9r hlt))
 refine ⟨h1,⟨hl,fun j y c hy hc=>?_⟩,h2⟩
 cases j with
 | zero=>simp at hy;subst hy;rw [C9r hlt] at hc;cases hc;exact h3
 | succ j=>simp at hy
theorem K1 {st:St} {e b n:Nat} {y:H1} {f:Nat→AV} (hy:st b=some y) (he:y.e=e) (hn:n≤y.n) (hf:∀ i,i<n→y.f i=f i):A4 [.own e b 0 n] st [.arr e n f] (del st b) :=
 A4.one fun w c hS hr=>by
  obtain ⟨h1,h2,h3⟩:=B2v hS hy he (by omega) hr
  exact ⟨h1,h2,Rep.arr_congr (fun i hi=>by simpa using hf i hi) h3⟩
theorem I1 {st:St} (e:Nat) (f:Nat→AV):A4 [.emp] st [.arr e 0 f] st:=A4.one fun w c hS hr=>⟨hS,P6.refl _ _,B3F e f hr⟩
theorem A4.tuple {a b:List AV} {st st':St} (h:A4 a st b st') (hl:a.length=b.length):A4 [.tuple a] st [.tuple b] st':=A4.one fun w c hS hr=>by
 cases hr with
 | tuple cs vs hlen hg =>
  obtain ⟨h1,h2,h3⟩:=h w vs hS ⟨hlen,hg⟩
  exact ⟨h1,h3,.tuple _ _ h2.1 h2.2⟩
theorem A4.cons {v v':AV} {a b:List AV} {s t u:St} (h1:A4 [v] s [v'] t) (h2:A4 a t b u):A4 (v::a) s (v'::b) u:=fun w cs hS hR=>by
 obtain ⟨hl,hr⟩:=hR
 have hlt:0<cs.size:=by rw [←hl];simp
 obtain ⟨k1,k2,k3⟩:=h1 w #[cs[0]] hS ⟨rfl,fun j y c hy hc=>by
  cases j with
  | zero=>simp at hy hc;subst hy;subst hc;exact hr 0 v cs[0] rfl (C9r hlt)
  | succ j=>simp at hy⟩
 obtain ⟨m1,m2,m3⟩:=h2 w (cs.extract 1 cs.size) k1 ⟨by simp at hl ⊢;omega,fun j y c hy hc=>by
  rw [Array.getElem?_extract] at hc
  split at hc
  ·exact k3.rep (hr (j+1) y c (by simpa using hy) (by rw [←hc];congr 1;omega))
  ·cases hc⟩
 refine ⟨m1,⟨?_,fun j y c hy hc=>?_⟩,k3.trans m3⟩
 ·have:=m2.1;simp at this hl ⊢;omega
 ·cases j with
  | zero =>
   simp at hy;subst hy
   rw [C9r hlt] at hc;cases hc
   exact m3.rep (k2.2 0 v' cs[0] rfl rfl)
  | succ j =>
   refine m2.2 j y c (by simpa using hy) ?_
   rw [Array.getElem?_extract,if_pos,←hc]
   ·congr 1;omega
   ·have:=(C9U.1 hc).1;omega
theorem A4.keep (a:List AV) (st:St):A4 a st a st:=A4.refl a st
theorem A4.nil (st:St):A4 [] st [] st:=A4.refl _ _
def E9 (st st':St):Prop:=∀ b x,st b=some x→st' b=some x
theorem E9.refl (st:St):E9 st st:=fun _ _ h=>h
theorem E9.trans {a b c:St} (h:E9 a b) (k:E9 b c):E9 a c:=fun i x hx=>k i x (h i x hx)
theorem E9.upd {st st':St} {b:Nat} {x:H1} (h:E9 st st') (hb:st' b=none):E9 st (upd st' b x):=fun i y hy=>by
 have:=h i y hy
 have hn:i≠b:=fun e=>by rw [e,hb] at this;cases this
 rw [A5 hn];exact this
theorem E9.over {st st':St} {b:Nat} {x:H1} (h:E9 st st') (hb:st b=none):E9 st (Ab.upd st' b x):=fun i y hy=>by
 have hn:i≠b:=fun e=>by rw [e,hb] at hy;cases hy
 rw [A5 hn];exact h i y hy
theorem E9.del {st st':St} {b:Nat} (h:E9 st st') (hb:st b=none):E9 st (Ab.del st' b):=fun i y hy=>by
 have hn:i≠b:=fun e=>by rw [e,hb] at hy;cases hy
 unfold Ab.del;rw [if_neg hn];exact h i y hy
theorem E9.none {st st':St} (h:E9 st st') {b:Nat} (hb:st' b=none):st b=none:=by
 cases hc:st b with
 | none=>rfl
 | some x=>rw [h b x hc] at hb;cases hb
theorem E9.shift {st st':St} (h:E9 st st') (vs:List AV):A4 vs st' vs st:=fun w cs hS hR=>by
 have hrd:∀ a v,A0y w st' a=some v→A0y w st a=some v:=fun a v hv=>by
  unfold A0y at *
  split at hv
  ·rename_i hn;rw [h.none hn];exact hv
  ·cases hv
 refine ⟨fun b x hb=>?_,⟨hR.1,fun j y c hy hc=>(hR.2 j y c hy hc).mono hrd (fun _=>C9q _)⟩,⟨rfl,rfl,rfl,C9q _,fun b _ hb=>⟨rfl,h.none hb⟩,fun _=>C9q _⟩⟩
 obtain ⟨ds,hk⟩:=hS b x (h b x hb)
 exact ⟨ds,hk.heap,hk.size,hk.len,hk.one,fun i j y hi hy=>by
  obtain ⟨c,h1,h2⟩:=hk.cell i j y hi hy
  exact ⟨c,h1,h2.mono hrd (fun _=>C9q _)⟩⟩
theorem A1k {P:Program} {f:FuncId} {args:List AV} {st:St} {q:AV→Prop} (h:S P f args st fun v st'=>q v∧E9 st st'):S P f args st fun v st'=>q v∧st'=st :=
 h.post fun v st' ⟨h1,h2⟩=>⟨v,st,⟨h1,rfl⟩,h2.shift [v]⟩
theorem A8l {A:List AV} {st:St} (keep:List Nat) {B:List Nat→(Nat→KA)→Nat→List AV→St→Prop} (h:A0Q A keep fun us=>∀ I,B keep I 0 us st) :
  ∃ (keep:List Nat) (I:Nat→KA),(A0Q A keep fun us=>∃ m,I m us st)∧∀ m vs st',I m vs st'→B keep I m vs st':=by
 rw [X3] at h
 refine ⟨keep,fun m vs s=>m=0∧vs=keep.map (fun i=>A.getD i AV.junk)∧s=st,?_,?_⟩
 ·rw [X3];exact ⟨0,rfl,rfl,rfl⟩
 ·rintro m vs s ⟨rfl,rfl,rfl⟩
  exact h _
theorem A6 {x:Int} (h1 : -9223372036854775808≤x) (h2:x≤9223372036854775807):IntKind.i64.wrap x=x:=by
 rw [IntKind.wrap_i64];omega
theorem C1 {i:Nat} (h:i<9223372036854775807):IntKind.i64.wrap ((i:Int)+1)=((i+1:Nat):Int):=by
 rw [A6 (by omega) (by omega)];omega
theorem N5 {α : Type} [Inhabited α] {l:List α} {i:Nat} (h:i<l.length):l.take (i+1)=l.take i++[l.getD i default]:=by
 rw [D0T h]
 simp [h]
theorem K3 {α β : Type} [Inhabited α] {l:List α} {i:Nat} (h:i<l.length) (g : β→α→β) (b : β):(l.take (i+1)).foldl g b=g ((l.take i).foldl g b) (l.getD i default):=by
 rw [N5 h,D1Y];rfl
theorem A4.arr {e n:Nat} {f g:Nat→AV} {st:St} (h:∀ i,i<n→f i=g i):A4 [.arr e n f] st [.arr e n g] st :=
 A4.one fun w c hS hr=>⟨hS,P6.refl _ _,hr.arr_congr h⟩
end Go.Ab
