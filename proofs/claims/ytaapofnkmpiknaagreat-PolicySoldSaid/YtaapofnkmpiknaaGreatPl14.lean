/- Part 14 of the proof: contracts of the functions that the law reaches -/
import Derived.Test.YtaapofnkmpiknaaGreatPl13
set_option linter.unusedVariables false
set_option linter.unusedSimpArgs false
namespace Go.Ab
open Go
theorem ldO {T:G9} {t:TypeId} {e b i o:Nat} {st:St} {k:KK} {x:K4} {r:C2} (h:st b=some x) (hr:T t=some r) (he:e=x.e) (hi:i<x.n) (hk:A9d r (cellsOf (x.f i)) o (fun y=>k y st)):C2J T t e b i o st k:=by
 refine ⟨?_⟩
 unfold A3n
 rw [hr]
 simp only [h]
 exact ⟨he,hi,B2P hk⟩
theorem stO {T:G9} {t:TypeId} {e b i o:Nat} {v:AV} {st:St} {k:KK} {x:K4} {r:C2} (h:st b=some x) (hr:T t=some r) (he:e=x.e) (hi:i<x.n)
  (hc:(Nat.blt 0 r.size&&Nat.beq (cellsOf v).length r.size&&(cellsOf v).all AV.one&&Nat.ble (o+r.size) x.e)=true)
  (hk:k (.tuple []) (upd st b { x with f:=I4 x.f i (Q2 (x.f i) o (cellsOf v)) })):B7E T t e b i o v st k:=by
 refine ⟨?_⟩
 unfold A7F
 simp only [D6I,D9o,Nat.beq_eq,Nat.ble_eq] at hc
 obtain ⟨⟨⟨h1,h2⟩,h3⟩,h4⟩:=hc
 rw [hr]
 simp only [h]
 exact ⟨h1,he,hi,h2,h3,h4,hk⟩
theorem mkO {T:G9} {t:TypeId} {kk kk':IntKind} {n:Nat} {st:St} {k:KK} {r q:C2} {el:TypeId} (hr:T t=some r) (hd:r.desc=.slice el) (hq:T el=some q)
  (hb:q.bytes * n≤281474976710656) (hn:n≤281474976710656) (hz:(Nat.beq q.zero.cells.size q.size&&(cellsOf (H7 q.zero)).all AV.one)=true)
  (hk:∀ b,st b=none→k (.own q.size b 0 n) (upd st b ⟨el,q.size,n,fun _=>H7 q.zero⟩)):xMk T t (.int kk (n:Int)) (.int kk' (n:Int)) st k:=by
 refine ⟨?_⟩
 unfold B0Y
 simp only [D6I,Nat.beq_eq] at hz
 rw [hr]
 simp only [hd,hq]
 refine .inr ⟨trivial,by omega,?_,by omega,hz.1,hz.2,by simpa using hk⟩
 have:((q.bytes * n:Nat):Int)≤281474976710656:=by omega
 rwa [Int.natCast_mul] at this
theorem apE {T:G9} {t:TypeId} {x:AV} {st:St} {k:KK} {r q:C2} {el m:Nat} {f:Nat→AV} (hr:T t=some r) (hd:r.desc=.slice el) (hq:T el=some q)
  (hz:(Nat.blt 0 q.size&&Nat.blt 0 q.bytes&&Nat.beq q.zero.cells.size q.size)=true) (hs:A0g q.size st x=some (m,f)) (hb:m * q.bytes≤140737488355328)
  (h0:m=0→k .emp st) (hk:0<m→∀ b,st b=none→k (.own q.size b 0 m) (upd st b ⟨el,q.size,m,f⟩)):A5L T t .emp x st k:=by
 refine ⟨?_⟩
 unfold A4R
 simp only [D6I,D9o,Nat.beq_eq] at hz
 rw [hr]
 simp only [hd,hq,hs]
 exact ⟨hz.1.1,hz.1.2,hz.2,h0,fun hm=>⟨hb,hk hm⟩⟩
theorem apO {T:G9} {t:TypeId} {x:AV} {st:St} {k:KK} {r q:C2} {el m b n:Nat} {f:Nat→AV} {y:K4} (hr:T t=some r) (hd:r.desc=.slice el) (hq:T el=some q)
  (hz:(Nat.blt 0 q.size&&Nat.blt 0 q.bytes&&Nat.beq q.zero.cells.size q.size)=true) (hs:A0g q.size st x=some (m,f)) (hy:st b=some y) (hye:y.e=q.size) (hyt:y.ty=el) (hyn:y.n=n) (hb:(n+m) * q.bytes≤140737488355328)
  (h0:m=0→k (.own q.size b 0 n) st) (hk:0<m→∀ b',(b'=b∨st b'=none)→k (.own q.size b' 0 (n+m)) (upd (del st b) b' ⟨el,q.size,n+m,fun i=>if i<n then y.f i else f (i - n)⟩)):A5L T t (.own q.size b 0 n) x st k:=by
 refine ⟨?_⟩
 unfold A4R
 simp only [D6I,D9o,Nat.beq_eq] at hz
 rw [hr]
 simp only [hd,hq,hs,hy]
 exact ⟨hz.1.1,hz.1.2,hz.2,trivial,trivial,hye,hyt,hyn,h0,fun hm=>⟨hb,hk hm⟩⟩
theorem A3F (e m:Nat) (f:Nat→AV) (st:St):A0g e st (.arr e m f)=some (m,f):=by simp [A0g]
theorem C9u {e b off m:Nat} {st:St} {y:K4} (hy:st b=some y) (he:y.e=e) (hm:off+m≤y.n):A0g e st (.own e b off m)=some (m,fun i=>y.f (off+i)):=by simp [A0g,hy,he,hm]
theorem Rep.arr_congr {rd:Addr→Option Value} {sz:Nat→Nat} {e n:Nat} {f g:Nat→AV} {c:Value} (hfg:∀ i,i<n→f i=g i) (h:Rep rd sz (.arr e n f) c):Rep rd sz (.arr e n g) c:=by
 cases h with
 | arr e n f A c q hc hA hl ho hr hg=>exact .arr e n g A c q hc hA (fun i hi=>by rw [←hfg i hi];exact hl i hi) (fun i hi=>by rw [←hfg i hi];exact ho i hi) hr (fun i j y hi hy=>hg i j y hi (by rw [hfg i hi];exact hy))
theorem B8k {w:World} {st:St} {e b off n:Nat} {y:K4} {c:Value} (hS:I3 st w) (hy:st b=some y) (he:y.e=e) (hn:off+n≤y.n) (h:M0 w st (.own e b off n) c) :
  I3 (del st b) w∧Evo st w (del st b) w∧M0 w (del st b) (.arr e n (fun i=>y.f (off+i))) c:=by
 have hev:Evo st w (del st b) w:=⟨rfl,rfl,rfl,D6M _,fun c _ hs=>⟨rfl,by unfold del;split;rfl;exact hs⟩,fun _=>D6M _⟩
 have hdel:del st b b=none:=by simp [del]
 obtain ⟨cs,hok⟩:=hS b y hy
 refine ⟨fun c z hz=>?_,hev,?_⟩
 ·unfold del at hz
  split at hz
  ·cases hz
  ·obtain ⟨ds,hd⟩:=hS c z hz
   exact ⟨ds,hd.evo hev rfl⟩
 ·cases h with
  | own e b off n c hc hs =>
   have:=B1e (hok.evo hev rfl) hdel off n hn c hc
   rw [he] at this;exact this
theorem B9Q {rd:Addr→Option Value} {sz:Nat→Nat} {c:Value} (e:Nat) (f:Nat→AV) (h:Rep rd sz .emp c):Rep rd sz (.arr e 0 f) c:=by
 cases h with
 | emp A=>exact .arr e 0 f A 0 (fun _ _=>undef) (D6M _) (fun h=>absurd h (by omega)) (fun i hi=>absurd hi (by omega)) (fun i hi=>absurd hi (by omega)) (fun _ _ i j hi=>absurd hi (by omega)) (fun i j y hi=>absurd hi (by omega))
theorem A6.one {v v':AV} {st st':St} (h:∀ w c,I3 st w→M0 w st v c→I3 st' w∧Evo st w st' w∧M0 w st' v' c):A6 [v] st [v'] st':=fun w cs hS hR=>by
 obtain ⟨hl,hr⟩:=hR
 have hlt:0<cs.size:=by rw [←hl];exact Nat.one_pos
 obtain ⟨h1,h2,h3⟩:=h w cs[0] hS (hr 0 v cs[0] rfl (D6V hlt))
 refine ⟨h1,⟨hl,fun j y c hy hc=>?_⟩,h2⟩
 cases j with
 | zero=>simp at hy;subst hy;rw [D6V hlt] at hc;cases hc;exact h3
 | succ j=>simp at hy
theorem O4 {st:St} {e b n:Nat} {y:K4} {f:Nat→AV} (hy:st b=some y) (he:y.e=e) (hn:n≤y.n) (hf:∀ i,i<n→y.f i=f i):A6 [.own e b 0 n] st [.arr e n f] (del st b) :=
 A6.one fun w c hS hr=>by
  obtain ⟨h1,h2,h3⟩:=B8k hS hy he (by omega) hr
  exact ⟨h1,h2,Rep.arr_congr (fun i hi=>by simpa using hf i hi) h3⟩
theorem I9 {st:St} (e:Nat) (f:Nat→AV):A6 [.emp] st [.arr e 0 f] st:=A6.one fun w c hS hr=>⟨hS,Evo.refl _ _,B9Q e f hr⟩
theorem A6.tuple {a b:List AV} {st st':St} (h:A6 a st b st') (hl:a.length=b.length):A6 [.tuple a] st [.tuple b] st':=A6.one fun w c hS hr=>by
 cases hr with
 | tuple cs vs hlen hg =>
  obtain ⟨h1,h2,h3⟩:=h w vs hS ⟨hlen,hg⟩
  exact ⟨h1,h3,.tuple _ _ h2.1 h2.2⟩
theorem A6.cons {v v':AV} {a b:List AV} {s t u:St} (h1:A6 [v] s [v'] t) (h2:A6 a t b u):A6 (v::a) s (v'::b) u:=fun w cs hS hR=>by
 obtain ⟨hl,hr⟩:=hR
 have hlt:0<cs.size:=by rw [←hl];simp
 obtain ⟨k1,k2,k3⟩:=h1 w #[cs[0]] hS ⟨rfl,fun j y c hy hc=>by
  cases j with
  | zero=>simp at hy hc;subst hy;subst hc;exact hr 0 v cs[0] rfl (D6V hlt)
  | succ j=>simp at hy⟩
 obtain ⟨m1,m2,m3⟩:=h2 w (cs.extract 1 cs.size) k1 ⟨by simp at hl ⊢;omega,fun j y c hy hc=>by
  rw [Array.getElem?_extract] at hc
  split at hc
  ·exact k3.rep (hr (j+1) y c (by simpa using hy) (by rw [←hc];congr 1;omega))
  ·cases hc⟩
 refine ⟨m1,⟨?_,fun j y c hy hc=>?_⟩,k3.trans m3⟩
 ·have:=m2.1;simp at this hl ⊢;omega
 ·cases j with
  | zero =>
   simp at hy;subst hy
   rw [D6V hlt] at hc;cases hc
   exact m3.rep (k2.2 0 v' cs[0] rfl rfl)
  | succ j =>
   refine m2.2 j y c (by simpa using hy) ?_
   rw [Array.getElem?_extract,if_pos,←hc]
   ·congr 1;omega
   ·have:=(D7D.1 hc).1;omega
theorem A6.keep (a:List AV) (st:St):A6 a st a st:=A6.refl a st
theorem A6.nil (st:St):A6 [] st [] st:=A6.refl _ _
def F1 (st st':St):Prop:=∀ b x,st b=some x→st' b=some x
theorem F1.refl (st:St):F1 st st:=fun _ _ h=>h
theorem F1.trans {a b c:St} (h:F1 a b) (k:F1 b c):F1 a c:=fun i x hx=>k i x (h i x hx)
theorem F1.upd {st st':St} {b:Nat} {x:K4} (h:F1 st st') (hb:st' b=none):F1 st (upd st' b x):=fun i y hy=>by
 have:=h i y hy
 have hn:i≠b:=fun e=>by rw [e,hb] at this;cases this
 rw [A9 hn];exact this
theorem F1.over {st st':St} {b:Nat} {x:K4} (h:F1 st st') (hb:st b=none):F1 st (Ab.upd st' b x):=fun i y hy=>by
 have hn:i≠b:=fun e=>by rw [e,hb] at hy;cases hy
 rw [A9 hn];exact h i y hy
theorem F1.del {st st':St} {b:Nat} (h:F1 st st') (hb:st b=none):F1 st (Ab.del st' b):=fun i y hy=>by
 have hn:i≠b:=fun e=>by rw [e,hb] at hy;cases hy
 unfold Ab.del;rw [if_neg hn];exact h i y hy
theorem F1.none {st st':St} (h:F1 st st') {b:Nat} (hb:st' b=none):st b=none:=by
 cases hc:st b with
 | none=>rfl
 | some x=>rw [h b x hc] at hb;cases hb
theorem F1.shift {st st':St} (h:F1 st st') (vs:List AV):A6 vs st' vs st:=fun w cs hS hR=>by
 have hrd:∀ a v,A3D w st' a=some v→A3D w st a=some v:=fun a v hv=>by
  unfold A3D at *
  split at hv
  ·rename_i hn;rw [h.none hn];exact hv
  ·cases hv
 refine ⟨fun b x hb=>?_,⟨hR.1,fun j y c hy hc=>(hR.2 j y c hy hc).mono hrd (fun _=>D6M _)⟩,⟨rfl,rfl,rfl,D6M _,fun b _ hb=>⟨rfl,h.none hb⟩,fun _=>D6M _⟩⟩
 obtain ⟨ds,hk⟩:=hS b x (h b x hb)
 exact ⟨ds,hk.heap,hk.size,hk.len,hk.one,fun i j y hi hy=>by
  obtain ⟨c,h1,h2⟩:=hk.cell i j y hi hy
  exact ⟨c,h1,h2.mono hrd (fun _=>D6M _)⟩⟩
theorem A0Q {P:Program} {f:FuncId} {args:List AV} {st:St} {q:AV→Prop} (h:S P f args st fun v st'=>q v∧F1 st st'):S P f args st fun v st'=>q v∧st'=st :=
 h.post fun v st' ⟨h1,h2⟩=>⟨v,st,⟨h1,rfl⟩,h2.shift [v]⟩
theorem B1M {A:List AV} {st:St} (keep:List Nat) {B:List Nat→(Nat→KA)→Nat→List AV→St→Prop} (h:A3N A keep fun us=>∀ I,B keep I 0 us st) :
  ∃ (keep:List Nat) (I:Nat→KA),(A3N A keep fun us=>∃ m,I m us st)∧∀ m vs st',I m vs st'→B keep I m vs st':=by
 rw [A2t] at h
 refine ⟨keep,fun m vs s=>m=0∧vs=keep.map (fun i=>A.getD i AV.junk)∧s=st,?_,?_⟩
 ·rw [A2t];exact ⟨0,rfl,rfl,rfl⟩
 ·rintro m vs s ⟨rfl,rfl,rfl⟩
  exact h _
theorem A5 {x:Int} (h1 : -9223372036854775808≤x) (h2:x≤9223372036854775807):IntKind.i64.wrap x=x:=by
 rw [IntKind.wrap_i64];omega
theorem B4 {i:Nat} (h:i<9223372036854775807):IntKind.i64.wrap ((i:Int)+1)=((i+1:Nat):Int):=by
 rw [A5 (by omega) (by omega)];omega
theorem L0 {α : Type} [Inhabited α] {l:List α} {i:Nat} (h:i<l.length):l.take (i+1)=l.take i++[l.getD i default]:=by
 rw [D8J h]
 simp [h]
theorem H6 {α β : Type} [Inhabited α] {l:List α} {i:Nat} (h:i<l.length) (g : β→α→β) (b : β):(l.take (i+1)).foldl g b=g ((l.take i).foldl g b) (l.getD i default):=by
 rw [L0 h,D8H];rfl
theorem A6.arr {e n:Nat} {f g:Nat→AV} {st:St} (h:∀ i,i<n→f i=g i):A6 [.arr e n f] st [.arr e n g] st :=
 A6.one fun w c hS hr=>⟨hS,Evo.refl _ _,hr.arr_congr h⟩
end Go.Ab
