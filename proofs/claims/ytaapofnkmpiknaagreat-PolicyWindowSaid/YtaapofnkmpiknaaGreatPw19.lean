/- Part 19 of the proof: contracts of the functions that the law reaches -/
import Derived.Test.YtaapofnkmpiknaaGreatPw18
set_option maxRecDepth 100000
set_option linter.unusedVariables false
set_option linter.unusedSimpArgs false
namespace Go.Proofs.YtaapofnkmpiknaaGreat
open Go Go.Ab
theorem B1m {P:Program} {t:TypeId} {name:String} {f:FuncId} (h:∀ v w,(method (P.types.size+Made.depth) t v name).run P w=.ok (f,v) w) (v:Value) (w:World) (args:Array Value):(callMethod (.iface t v) name args).run P w=(callFunc f (#[v]++args)).run P w:=by
 simp only [callMethod,Sem.run_bind,run_program,Result.andThen_ok,h]
theorem C2v (v : Value) (w : World) : (method (P.types.size + Made.depth) 318 v "Push").run P w = .ok (365, v) w := by kernel_rfl
theorem C6x (v : Value) (w : World) : (method (P.types.size + Made.depth) 318 v "Pop").run P w = .ok (364, v) w := by kernel_rfl
theorem A0z {P:Program} {t el:TypeId} {name:String} {f:FuncId} {n:Nat} {o:Option (List FieldStep×Option (FuncId×Bool))} (hn:P.types.size+Made.depth=n+1)
  (hI:(P.info? t).map (fun I=>(I.methods.find? (·.name==name)).map fun m=>(m.path.toList,m.func))=some o) (ho:o=some ([],some (f,false))) (hu:P.underlying t=some (.pointer el))
  (ad:Addr) (u:Value) (w:World) (hl:(loadVar el ad).run P w=.ok u w):(method (P.types.size+Made.depth) t (.pointer (some ad)) name).run P w=.ok (f,u) w:=by
 subst ho
 rw [hn]
 cases hi:P.info? t with
 | none=>rw [hi] at hI;cases hI
 | some I =>
  rw [hi] at hI
  simp only [D0U,D0Y] at hI
  cases hm:I.methods.find? (·.name==name) with
  | none=>rw [hm] at hI;cases hI
  | some m =>
   rw [hm] at hI
   simp only [D0U,D0Y,Prod.mk.injEq] at hI
   obtain ⟨h1,h2⟩:=hI
   have hpe:m.path.isEmpty=true:=by
    rw [Array.isEmpty_iff];exact Array.toList_eq_nil_iff.1 h1
   unfold method
   simp only [Sem.run_bind,typeInfo,run_program,Result.andThen_ok,hi,hm,h1,h2,follow,Sem.run_pure,receiverAt,run_underlying hu,Place.get,hpe,if_true]
   have hs : (Builtin.ssaWrapNilChk_ #[t] t #[Value.pointer (some ad), strVal "", strVal ((name.splitOn ".").getLastD name)]).run P w = .ok (.pointer (some ad)) w := rfl
   rw [hs]
   simp only [Result.andThen_ok,asAddr,Sem.run_pure,hl]
theorem C6v (ad : Addr) (u : Value) (w : World) (hl : (loadVar 313 ad).run P w = .ok u w) : (method (P.types.size + Made.depth) 318 (.pointer (some ad)) "Len").run P w = .ok (361, u) w := A0z (P := P) (t := 318) (el := 313) (name := "Len") (f := 361) (n := P.types.size + Made.depth - 1) (by kernel_rfl) (by kernel_rfl) rfl (by kernel_rfl) ad u w hl
theorem C2m (ad : Addr) (u : Value) (w : World) (hl : (loadVar 313 ad).run P w = .ok u w) : (method (P.types.size + Made.depth) 318 (.pointer (some ad)) "Less").run P w = .ok (362, u) w := A0z (P := P) (t := 318) (el := 313) (name := "Less") (f := 362) (n := P.types.size + Made.depth - 1) (by kernel_rfl) (by kernel_rfl) rfl (by kernel_rfl) ad u w hl
theorem C2n (ad : Addr) (u : Value) (w : World) (hl : (loadVar 313 ad).run P w = .ok u w) : (method (P.types.size + Made.depth) 318 (.pointer (some ad)) "Swap").run P w = .ok (363, u) w := A0z (P := P) (t := 318) (el := 313) (name := "Swap") (f := 363) (n := P.types.size + Made.depth - 1) (by kernel_rfl) (by kernel_rfl) rfl (by kernel_rfl) ad u w hl
def M:E7:=fun t n =>
 match Nat.beq t 318 with
 | false=>none
 | true=>match n with
  | "Len" => some (361, some 313)
  | "Less" => some (362, some 313)
  | "Swap" => some (363, some 313)
  | "Push" => some (365, none)
  | "Pop" => some (364, none)
  | _=>none
theorem mok:MOk P M:=fun t n f d h v w=>by
 unfold M at h
 split at h
 ·cases h
 rename_i ht
 have ht:=D1y ht
 subst ht
 split at h<;>first
  | (cases h;done)
  | (cases h;intro args;first | exact B1m C2v v w args | exact B1m C6x v w args)
  | (cases h;rintro ad u args rfl hl;simp only [callMethod,Sem.run_bind,run_program,Result.andThen_ok];(first | rw [C6v ad u w hl] | rw [C2m ad u w hl] | rw [C2n ad u w hl]);rfl)
theorem A7d:A3M P T M:=B9o C1S mok
end Go.Proofs.YtaapofnkmpiknaaGreat
namespace Go.Ab
open Go
theorem ldV {T:C7} {t:TypeId} {e b i o ty n:Nat} {st:St} {k:KK} {r:B5} {f:Nat→AV} {v:AV} (h:st b=some ⟨ty,e,n,f⟩) (hr:T t=some r) (hi:i<n) (hv:f i=v) (hk:A5d r (A2 v) o (fun y=>k y st)):B6g T t e b i o st k :=
 ldO h hr rfl hi (by rw [show (H1.mk ty e n f).f i=v from hv];exact hk)
theorem stV {T:C7} {t:TypeId} {e b i o ty n:Nat} {u v:AV} {st:St} {k:KK} {r:B5} {f:Nat→AV} (h:st b=some ⟨ty,e,n,f⟩) (hr:T t=some r) (hi:i<n) (hv:f i=v)
  (hc:(Nat.blt 0 r.size&&Nat.beq (A2 u).length r.size&&(A2 u).all AV.one&&Nat.ble (o+r.size) e)=true)
  (hk:k (.tuple []) (upd st b ⟨ty,e,n,G8 f i (I5 v o (A2 u))⟩)):B2a T t e b i o u st k:=by
 refine stO h hr rfl hi hc ?_
 rw [show (H1.mk ty e n f).f i=v from hv]
 exact hk
theorem B4 (f:Nat→AV) (i:Nat) (v:AV):G8 f i v i=v:=by simp [G8]
theorem J1 {f:Nat→AV} {i j:Nat} {v:AV} (h:j≠i):G8 f i v j=f j:=by simp [G8,h]
def Col (ty e:Nat) (f:Nat→AV) (st:St) (n:Nat) (sv:AV) (st':St):Prop :=
 (n=0∧sv=.emp∧st'=st)∨(0<n∧∃ b g,st b=none∧sv=.own e b 0 n∧st'=upd st b ⟨ty,e,n,g⟩∧∀ k,k<n→g k=f k)
theorem Col.start (ty e:Nat) (f:Nat→AV) (st:St):Col ty e f st 0 .emp st:=.inl ⟨rfl,rfl,rfl⟩
theorem Col.congr {ty e:Nat} {f f':Nat→AV} {st:St} {n:Nat} {sv:AV} {st':St} (h:Col ty e f st n sv st') (hf:∀ k,k<n→f k=f' k):Col ty e f' st n sv st':=by
 rcases h with h | ⟨h0,b,g,h1,h2,h3,h4⟩
 ·exact .inl h
 ·exact .inr ⟨h0,b,g,h1,h2,h3,fun k hk=>(h4 k hk).trans (hf k hk)⟩
theorem Col.app {T:C7} {t:TypeId} {x sv:AV} {st st':St} {k:KK} {r q:B5} {el n:Nat} {f g:Nat→AV} (hr:T t=some r) (hd:r.desc=.slice el) (hq:T el=some q)
  (hz:(Nat.blt 0 q.size&&Nat.blt 0 q.bytes&&Nat.beq q.zero.cells.size q.size)=true) (hs:A0C q.size st' x=some (1,g)) (hg:g 0=f n) (hb:(n+1) * q.bytes≤140737488355328)
  (hc:Col el q.size f st n sv st') (hk:∀ sv' st'',Col el q.size f st (n+1) sv' st''→k sv' st''):A8a T t sv x st' k:=by
 rcases hc with ⟨rfl,rfl,rfl⟩ | ⟨h0,b,y,h1,rfl,rfl,h4⟩
 ·refine apE hr hd hq hz hs (by omega) (fun h=>by omega) (fun _ b hb=>hk _ _ (.inr ⟨by omega,b,g,hb,rfl,rfl,fun k hk=>?_⟩))
  have:k=0:=by omega
  subst this;exact hg
 ·refine apO hr hd hq hz hs (A0 ..) rfl rfl rfl hb (fun h=>by omega) (fun _ b' hb'=>?_)
  rw [A3q h1]
  have hb'':st b'=none:=by
   rcases hb' with rfl | h
   ·exact h1
   ·by_cases e:b'=b
    ·subst e;exact h1
    ·rw [A5 e] at h;exact h
  refine hk _ _ (.inr ⟨by omega,b',_,hb'',rfl,rfl,fun k hk=>?_⟩)
  by_cases hkn:k<n
  ·simp only [hkn,if_true];exact h4 k hkn
  ·have:k=n:=by omega
   subst this
   simp only [hkn,D1x,Nat.sub_self];exact hg
theorem Col.apps {T:C7} {t:TypeId} {x sv:AV} {st st':St} {k:KK} {r q:B5} {el n m:Nat} {f g:Nat→AV} (hr:T t=some r) (hd:r.desc=.slice el) (hq:T el=some q)
  (hz:(Nat.blt 0 q.size&&Nat.blt 0 q.bytes&&Nat.beq q.zero.cells.size q.size)=true) (hs:A0C q.size st' x=some (m,g)) (hg:∀ i,i<m→g i=f (n+i)) (hb:(n+m) * q.bytes≤140737488355328)
  (hc:Col el q.size f st n sv st') (hk:∀ sv' st'',Col el q.size f st (n+m) sv' st''→k sv' st''):A8a T t sv x st' k:=by
 rcases hc with ⟨rfl,rfl,rfl⟩ | ⟨h0,b,y,h1,rfl,rfl,h4⟩
 ·refine apE hr hd hq hz hs (by simpa using hb) (fun h=>hk _ _ (.inl ⟨by omega,rfl,rfl⟩)) (fun hm b hb=>?_)
  have e:0+m=m:=C9y m
  refine hk _ _ ?_
  rw [e]
  exact .inr ⟨hm,b,g,hb,rfl,rfl,fun k hk=>by have:=hg k hk;rwa [C9y] at this⟩
 ·refine apO hr hd hq hz hs (A0 ..) rfl rfl rfl hb (fun h=>hk _ _ ?_) (fun _ b' hb'=>?_)
  ·subst h;exact .inr ⟨h0,b,y,h1,rfl,rfl,h4⟩
  rw [A3q h1]
  have hb'':st b'=none:=by
   rcases hb' with rfl | h
   ·exact h1
   ·by_cases e:b'=b
    ·subst e;exact h1
    ·rw [A5 e] at h;exact h
  refine hk _ _ (.inr ⟨by omega,b',_,hb'',rfl,rfl,fun k hk=>?_⟩)
  by_cases hkn:k<n
  ·simp only [hkn,if_true];exact h4 k hkn
  ·simp only [hkn,D1x]
   have:=hg (k - n) (by omega)
   rw [this];congr 1;omega
theorem Col.shift {ty e:Nat} {f:Nat→AV} {st:St} {n:Nat} {sv:AV} {st':St} (h:Col ty e f st n sv st'):A4 [sv] st' [.arr e n f] st:=by
 rcases h with ⟨rfl,rfl,rfl⟩ | ⟨h0,b,g,h1,rfl,rfl,h4⟩
 ·exact I1 e f
 ·have:=K1 (st:=upd st b ⟨ty,e,n,g⟩) (e:=e) (b:=b) (n:=n) (f:=f) (A0 ..) rfl (C9q _) h4
  rw [A3q h1] at this;exact this
theorem Col.sup {ty e:Nat} {f:Nat→AV} {st:St} {n:Nat} {sv:AV} {st':St} (h:Col ty e f st n sv st'):E9 st st':=by
 rcases h with ⟨rfl,rfl,rfl⟩ | ⟨h0,b,g,h1,rfl,rfl,h4⟩
 ·exact E9.refl _
 ·exact (E9.refl st).upd h1
theorem B6t {P:Program} {F:FuncId} {args:List AV} {st:St} {ty e n:Nat} {f:Nat→AV} (h:S P F args st fun v st'=>Col ty e f st n v st'):S P F args st fun v st'=>v=.arr e n f∧st'=st :=
 h.post fun v st' hc=>⟨.arr e n f,st,⟨rfl,rfl⟩,hc.shift⟩
theorem F7 {α β : Type} [Inhabited α] [Inhabited β] (g : α→β) (l:List α) {i:Nat} (h:i<l.length):(l.map g).getD i default=g (l.getD i default):=by
 simp [C9i,h]
theorem A6Q {n:Nat} {p:Nat→Bool} (h:∀ k,k<n→p k=true):(List.range n).all p=true:=C9O.2 fun k hk=>h k (C9S.1 hk)
end Go.Ab
namespace Go.Proofs.YtaapofnkmpiknaaGreat
open Go Go.Ab
theorem I8 {e e':Nat} {j:Int} {n:Nat} {k q:Prop} (h:q) (h1:e=e':=by rfl) (h2:0≤j∧j<(n:Int):=by omega) (hk:k=q:=by conv=>lhs;whnf):e=e'∧(0≤j∧j<n)∧k:=⟨h1,h2,hk▸h⟩
theorem I9 {a b:Nat} {k q:Prop} (h:q) (h1:a=b:=by rfl) (hk:k=q:=by conv=>lhs;whnf):a=b∧k:=⟨h1,hk▸h⟩
theorem K9 {T:C7} {t:TypeId} {e b i o ty n:Nat} {st:St} {k:KK} {r:B5} {f:Nat→AV} {v:AV} {q:Prop} (h:st b=some ⟨ty,e,n,f⟩) (hv:f i=v) (h':q) (hr:T t=some r:=by rfl) (hi:i<n:=by omega)
  (hk:A5d r (A2 v) o (fun y=>k y st)=q:=by conv=>lhs;whnf):B6g T t e b i o st k:=ldV h hr hi hv (hk▸h')
theorem stU {T:C7} {t:TypeId} {e b i o ty n:Nat} {u v:AV} {st:St} {k:KK} {r:B5} {f:Nat→AV} (h:st b=some ⟨ty,e,n,f⟩) (hv:f i=v)
  (hk:k (.tuple []) (upd st b ⟨ty,e,n,G8 f i (I5 v o (A2 u))⟩)) (hr:T t=some r:=by rfl) (hi:i<n:=by omega)
  (hc:(Nat.blt 0 r.size&&Nat.beq (A2 u).length r.size&&(A2 u).all AV.one&&Nat.ble (o+r.size) e)=true:=by rfl):B2a T t e b i o u st k:=stV h hr hi hv hc hk
theorem stW {T:C7} {t:TypeId} {e b i o ty n:Nat} {u v:AV} {st:St} {k:KK} {r:B5} {f:Nat→AV} {q:Prop} (h:st b=some ⟨ty,e,n,f⟩) (hv:f i=v) (h':q) (hr:T t=some r:=by rfl) (hi:i<n:=by omega)
  (hc:(Nat.blt 0 r.size&&Nat.beq (A2 u).length r.size&&(A2 u).all AV.one&&Nat.ble (o+r.size) e)=true:=by rfl)
  (hk:k (.tuple []) (upd st b ⟨ty,e,n,G8 f i (I5 v o (A2 u))⟩)=q:=by conv=>lhs;whnf):B2a T t e b i o u st k:=stV h hr hi hv hc (hk▸h')
theorem J0 {P:Program} {f:FuncId} {args:List AV} {st:St} {v:AV} {k:KK} {q:Prop} (h:S P f args st fun v' st'=>v'=v∧st'=st) (h':q) (hk:k v st=q:=by conv=>lhs;whnf):U8 P f args st k:=B6 h (hk▸h')
theorem cqW {P:Program} {f:FuncId} {args:List AV} {st:St} {v:AV} {k:AV→Prop} {q:Prop} (h:S P f args st fun v' st'=>v'=v∧st'=st) (h':q) (hk:k v=q:=by conv=>lhs;whnf) :
  ∃ v,U8 P f args st (fun v' st'=>v'=v∧st'=st)∧k v:=⟨v,call h fun _ _ h=>h,hk▸h'⟩
theorem SyW (frz:List Nat) {f:FuncId} {fn:Func} {c:Code} {args:List AV} {st:St} {post:KK} {n:Nat} {rs:Array ResultVar} (hf:P.funcs[f]?=some fn)
  (h : A1i args n fun A => ZC P T M frz (yDr P T M frz) [] c A st (B6d T rs.toList post)) (hname : (fn.name == "runtime.NumGoroutine") = false := by rfl) (hb : fn.body = some c := by rfl) (hn : fn.ntmps = n := by rfl) (hr : fn.results = rs := by rfl) :
  S P f args st post:=B6v frz A7d mixed hf hname hb hn hr h
theorem F5 (frz:List Nat) {f:FuncId} {fn:Func} {c:Code} {args:List AV} {st:St} {post:KK} {n:Nat} {rs:Array ResultVar} {q:Prop} (hf:P.funcs[f]?=some fn) (h:q)
  (hname : (fn.name == "runtime.NumGoroutine") = false := by rfl) (hb : fn.body = some c := by rfl) (hn : fn.ntmps = n := by rfl) (hr : fn.results = rs := by rfl)
  (hk:(A1i args n fun A=>ZC P T M frz (yDr P T M frz) [] c A st (B6d T rs.toList post))=q:=by conv=>lhs;whnf):S P f args st post:=B6v frz A7d mixed hf hname hb hn hr (hk▸h)
end Go.Proofs.YtaapofnkmpiknaaGreat
namespace Go.Proofs.YtaapofnkmpiknaaGreat
open Go Go.Ab
attribute [local irreducible] upd del
def chr (s:C9) (i:Nat):Int:=if h:i<s.size then ((s[i]'h).toNat:Int) else 0
theorem C0Y {s:C9} {i:Nat} {j:Int} (hj:j.toNat=i) (h:j.toNat<s.size):((s[j.toNat]'h).toNat:Int)=chr s i:=by
 subst hj;unfold chr;rw [dif_pos h]
theorem C2s {s:C9} {j:Int} {k:AV→Prop} {i:Nat} (hj:j=i) (hi:i<s.size) (hk:k (.int .u8 (chr s i))):C1V s j k:=by
 refine ⟨⟨by omega,by omega⟩,?_⟩
 rw [C0Y (i:=i) (by omega) (by omega)]
 exact hk
def okc (c:Int):Bool:=c==45||(decide (48≤c)&&decide (c≤57))||(decide (97≤c)&&decide (c≤122))
theorem B4d (c:Int):okc c=true↔c=45∨(48≤c∧c≤57)∨(97≤c∧c≤122):=by
 simp [okc,or_assoc]
def J7 (s:C9):Bool:=decide (1≤s.size)&&decide (s.size≤12)&&(List.range s.size).all fun i=>okc (chr s i)
theorem A5j {n:Nat} {p:Nat→Bool} (h:∀ k,k<n→p k=true):(List.range n).all p=true:=C9O.2 fun k hk=>h k (C9S.1 hk)
theorem A3t {n k:Nat} {p:Nat→Bool} (hk:k<n) (h:p k=false):(List.range n).all p=false:=by
 rw [D0R];intro e;rw [C9O.1 e k (C9S.2 hk)] at h;cases h
theorem A1f (s:C9) (st:St):S P 119 [eS s] st fun v st'=>v=.bool (J7 s)∧st'=st:=by
 refine F5 [] Tryz.func119 ?_
 cases h1:decide ((s.size:Int)<1)
 ·conv=>whnf
  cases h2:decide ((s.size:Int)>12)
  ·have g1:=C9k h1
   have g2:=C9k h2
   have hn:J7 s=(List.range s.size).all fun i=>okc (chr s i):=by
    unfold J7
    rw [D0r (by omega),D0r (by omega)];rfl
   conv=>whnf
   refine ⟨[0,14,15],fun m vs st'=>∃ i:Nat,i≤s.size∧(∀ k,k<i→okc (chr s k)=true)∧m=s.size - i∧vs=[eS s,eI s.size,eI i]∧st'=st,?_,?_⟩
   ·conv=>whnf
    exact ⟨_,0,C9v _,fun k hk=>absurd hk (by omega),rfl,rfl,rfl⟩
   ·rintro m vs st' ⟨i,hi,hok,rfl,rfl,rfl⟩
    conv=>whnf
    cases h3:decide ((i:Int)<(s.size:Int))
    ·have:=C9k h3
     conv=>whnf
     refine ⟨?_,rfl⟩
     rw [hn,A5j fun k hk=>hok k (by omega)];rfl
    ·have hlt:i<s.size:=by have:=C9j h3;omega
     conv=>whnf
     refine C2s (i:=i) rfl hlt ?_
     have yes:okc (chr s i)=true→∀ k,k<i+1→okc (chr s k)=true:=fun h k hk=>by
      rcases C9T.1 hk with h' | h'
      ·exact hok k h'
      ·rw [h'];exact h
     have no:okc (chr s i)=false→J7 s=false:=fun h=>by rw [hn];exact A3t hlt h
     generalize chr s i=c at *
     repeat' ((conv=>whnf);refine B7 (fun h=>?_) (fun h=>?_)<;>rw [h])
     all_goals (conv=>whnf)
     all_goals first
      | (refine ⟨?_,rfl⟩
         rw [no (by rw [←D0z,B4d];simp only [D1S,ne_eq,C9n,C9m,bne_eq_false_iff_eq] at *;omega)]
         rfl)
      | (refine ⟨rfl,?_⟩
         conv=>whnf
         exact ⟨s.size - (i+1),by omega,i+1,by omega,yes ((B4d c).2 (by simp only [D1S,ne_eq,C9n,C9m,bne_eq_false_iff_eq] at *;omega)),rfl,by rw [C1 (by omega)],rfl⟩)
  ·have g2:=C9j h2
   conv=>whnf
   refine ⟨?_,rfl⟩
   unfold J7
   rw [C9s (show ¬ s.size≤12 by omega),C9I];rfl
 ·have g1:=C9j h1
  conv=>whnf
  refine ⟨?_,rfl⟩
  unfold J7
  rw [C9s (show ¬ 1≤s.size by omega)];rfl
theorem A3v (x:Int) (st:St):S P 72 [eI x] st fun v st'=>v=.bool (decide (0≤x)&&decide (x≤100000000000000))∧st'=st:=by
 refine F5 [] Tryz.func72 ?_
 cases h:decide (x≥0)
 ·conv=>whnf
  have h':decide (0≤x)=false:=h
  exact ⟨by simp [A7u,h'],rfl⟩
 ·conv=>whnf
  have h':decide (0≤x)=true:=h
  exact ⟨by simp [A7u,h'],rfl⟩
def Y4 (a b:C9):Bool:=Op.bytesLess a.toList b.toList
def A4h (l:List C9) (k:Nat):Bool:=k==0||Y4 (l.getD (k - 1) default) (l.getD k default)
def A2w (l:List C9):Bool:=(List.range l.length).all (A4h l)
theorem A7I (l:List C9) (hl:l.length≤9223372036854775807) (st:St):S P 170 [E3 l] st fun v st'=>v=.bool (A2w l)∧st'=st:=by
 refine F5 [] Tryz.func170 ?_
 refine ⟨[0,5,6],fun m vs st'=>∃ i:Nat,i≤l.length∧(∀ k,k<i→A4h l k=true)∧m=l.length - i∧vs=[E3 l,eI l.length,eI i]∧st'=st,?_,?_⟩
 ·conv=>whnf
  exact ⟨_,0,C9v _,fun k hk=>absurd hk (by omega),rfl,rfl,rfl⟩
 ·rintro m vs st' ⟨i,hi,hok,rfl,rfl,rfl⟩
  conv=>whnf
  cases h:decide ((i:Int)<(l.length:Int))
  ·have:=C9k h
   conv=>whnf
   refine ⟨?_,rfl⟩
   unfold A2w
   rw [A5j fun k hk=>hok k (by omega)];rfl
  ·have hi':i<l.length:=by have:=C9j h;omega
   have yes:A4h l i=true→∀ k,k<i+1→A4h l k=true:=fun h k hk=>by
    rcases C9T.1 hk with h' | h'
    ·exact hok k h'
    ·rw [h'];exact h
   conv=>whnf
   refine ⟨[],[],[0,1,2,3,4,5,6,7,8,9,10,11,12,13],by kernel_rfl,?_⟩;conv=>whnf
   cases h2:decide ((i:Int)>0)
   ·have h0:i=0:=by have:=C9k h2;omega
    conv=>whnf
    refine I9 ?_
    exact ⟨l.length - (i+1),by omega,i+1,by omega,yes (by unfold A4h;rw [h0];rfl),rfl,by rw [C1 (by omega)],rfl⟩
   ·have hp:0<i:=by have:=C9j h2;omega
    have hw:IntKind.i64.wrap ((i:Int) - 1)=((i - 1:Nat):Int):=by rw [A6 (by omega) (by omega)];omega
    have e:A4h l i=Op.bytesLess (l.getD ((i - 1:Nat):Int).toNat default).toList (l.getD (i:Int).toNat default).toList:=by
     unfold A4h Y4
     rw [C9Q,C9Q,beq_false_of_ne (by omega),D0a]
    conv=>whnf
    refine ⟨rfl,⟨by omega,by omega⟩,?_⟩
    rw [hw];conv=>whnf
    refine I8 ?_
    cases h3:Op.bytesLess (l.getD ((i - 1:Nat):Int).toNat default).toList (l.getD (i:Int).toNat default).toList
    ·conv=>whnf
     refine ⟨?_,rfl⟩
     unfold A2w
     rw [A3t hi' (by rw [e,h3])];rfl
    ·conv=>whnf
     refine I9 ?_
     exact ⟨l.length - (i+1),by omega,i+1,by omega,yes (by rw [e,h3]),rfl,by rw [C1 (by omega)],rfl⟩
def idx {α : Type} (p : α→Bool):List α→Int
 | []=>-1
 | x::l=>if p x then 0 else if idx p l<0 then -1 else idx p l+1
theorem L4 {α : Type} [Inhabited α] {p : α→Bool}:∀ {l:List α},(∀ k,k<l.length→p (l.getD k default)=false)→idx p l = -1
 | [],_=>rfl
 | x::l,h=>by
  have h0:=h 0 (by simp)
  have ih:=L4 (l:=l) (fun k hk=>h (k+1) (by simpa using hk))
  simp only [D1J] at h0
  simp [idx,h0,ih]
theorem V5 {α : Type} [Inhabited α] {p : α→Bool}:∀ {l:List α} {i:Nat},i<l.length→(∀ k,k<i→p (l.getD k default)=false)→p (l.getD i default)=true→idx p l=i
 | [],i,hi,_,_=>by simp at hi
 | x::l,0,_,_,h=>by
  simp only [D1J] at h
  simp [idx,h]
 | x::l,i+1,hi,hk,h=>by
  have h0:=hk 0 (by omega)
  simp only [D1J] at h0
  have ih:=V5 (l:=l) (i:=i) (by simpa using hi) (fun k hk'=>hk (k+1) (by omega)) (by simpa using h)
  simp only [idx,h0,ih]
  rw [if_neg (by simp),if_neg (by omega)];omega
theorem A9D {α : Type} (p : α→Bool):∀ l:List α,-1≤idx p l∧idx p l<l.length
 | []=>by simp [idx]
 | x::l=>by
  have:=A9D p l
  simp only [idx,C9G]
  split
  ·omega
  ·split<;>omega
theorem B1g {α : Type} (p : α→Bool):∀ l:List α,0≤idx p l↔l.any p=true
 | []=>by simp [idx]
 | x::l=>by
  have ih:=B1g p l
  have hb:=A9D p l
  have e:idx p (x::l)=if p x then 0 else if idx p l<0 then -1 else idx p l+1:=rfl
  rw [e,List.any_cons]
  by_cases hx:p x=true
  ·rw [if_pos hx,hx];simp
  ·rw [if_neg hx,D0R.2 hx,D0a,←ih]
   split<;>omega
theorem W1 {α : Type} (p : α→Bool) (l:List α):decide (idx p l≥0)=l.any p:=by
 rw [D2j,C9n];exact B1g p l
theorem A9O (l:List C9) (hl:l.length≤9223372036854775807) (g:FuncId) (cs:List AV) (p:C9→Bool) (st:St)
  (hg:∀ x,x∈l→S P g (eS x::cs) st fun v st'=>v=.bool (p x)∧st'=st) :
  S P 341 [E3 l,.fn (.func g) [] cs] st fun v st'=>v=eI (idx p l)∧st'=st:=by
 refine F5 [] Tryz.func341 ?_
 refine ⟨[0,1,7,8],fun m vs st'=>∃ i:Nat,i≤l.length∧(∀ k,k<i→p (l.getD k default)=false)∧m=l.length - i∧vs=[E3 l,.fn (.func g) [] cs,eI l.length,eI i]∧st'=st,?_,?_⟩
 ·conv=>whnf
  exact ⟨_,0,C9v _,fun k hk=>absurd hk (by omega),rfl,rfl,rfl⟩
 ·rintro m vs st' ⟨i,hi,hok,rfl,rfl,rfl⟩
  conv=>whnf
  cases h:decide ((i:Int)<(l.length:Int))
  ·have:=C9k h
   conv=>whnf
   refine ⟨?_,rfl⟩
   rw [L4 fun k hk=>hok k (by omega)];rfl
  ·have hi':i<l.length:=by have:=C9j h;omega
   conv=>whnf
   refine I8 ?_
   refine B6 (hg (l.getD (i:Int).toNat default) (by simp [hi'])) ?_
   rw [C9Q]
   cases hp:p (l.getD i default)
   ·conv=>whnf
    refine I9 ?_
    refine ⟨l.length - (i+1),by omega,i+1,by omega,fun k hk=>?_,rfl,by rw [C1 (by omega)],rfl⟩
    rcases C9T.1 hk with h' | h'
    ·exact hok k h'
    ·rw [h'];exact hp
   ·conv=>whnf
    refine ⟨?_,rfl⟩
    rw [V5 hi' hok hp];rfl
theorem B2G (l:List C9) (hl:l.length≤9223372036854775807) (g:FuncId) (cs:List AV) (p:C9→Bool) (st:St)
  (hg:∀ x,x∈l→S P g (eS x::cs) st fun v st'=>v=.bool (p x)∧st'=st) :
  S P 330 [E3 l,.fn (.func g) [] cs] st fun v st'=>v=.bool (l.any p)∧st'=st:=by
 refine F5 [] Tryz.func330 ?_
 refine J0 (A9O l hl g cs p st hg) ?_
 refine ⟨?_,rfl⟩
 rw [←W1];rfl
theorem B1K (l:List C9) (hl:l.length≤9223372036854775807) (g:FuncId) (cs:List AV) (p:C9→Bool) (st:St)
  (hg:∀ x,x∈l→S P g (eS x::cs) st fun v st'=>v=.bool (p x)∧st'=st) :
  S P 221 [E3 l,.fn (.func g) [] cs] st fun v st'=>v=eI (idx p l)∧st'=st:=by
 refine F5 [] Tryz.func221 ?_
 refine ⟨[0,1,7,8],fun m vs st'=>∃ i:Nat,i≤l.length∧(∀ k,k<i→p (l.getD k default)=false)∧m=l.length - i∧vs=[E3 l,.fn (.func g) [] cs,eI l.length,eI i]∧st'=st,?_,?_⟩
 ·conv=>whnf
  exact ⟨_,0,C9v _,fun k hk=>absurd hk (by omega),rfl,rfl,rfl⟩
 ·rintro m vs st' ⟨i,hi,hok,rfl,rfl,rfl⟩
  conv=>whnf
  cases h:decide ((i:Int)<(l.length:Int))
  ·have:=C9k h
   conv=>whnf
   refine ⟨?_,rfl⟩
   rw [L4 fun k hk=>hok k (by omega)];rfl
  ·have hi':i<l.length:=by have:=C9j h;omega
   conv=>whnf
   refine I8 ?_
   refine B6 (hg (l.getD (i:Int).toNat default) (by simp [hi'])) ?_
   rw [C9Q]
   cases hp:p (l.getD i default)
   ·conv=>whnf
    refine I9 ?_
    refine ⟨l.length - (i+1),by omega,i+1,by omega,fun k hk=>?_,rfl,by rw [C1 (by omega)],rfl⟩
    rcases C9T.1 hk with h' | h'
    ·exact hok k h'
    ·rw [h'];exact hp
   ·conv=>whnf
    refine ⟨?_,rfl⟩
    rw [V5 hi' hok hp];rfl
theorem B5O (l:List C9) (hl:l.length≤9223372036854775807) (g:FuncId) (cs:List AV) (p:C9→Bool) (st:St)
  (hg:∀ x,x∈l→S P g (eS x::cs) st fun v st'=>v=.bool (p x)∧st'=st) :
  S P 171 [E3 l,.fn (.func g) [] cs] st fun v st'=>v=.bool (l.any p)∧st'=st:=by
 refine F5 [] Tryz.func171 ?_
 refine J0 (B1K l hl g cs p st hg) ?_
 refine ⟨?_,rfl⟩
 rw [←W1];rfl
theorem A8m (l:List A8) (hl:l.length≤9223372036854775807) (g:FuncId) (cs:List AV) (p:A8→Bool) (st:St)
  (hg:∀ x,x∈l→S P g (B9 x::cs) st fun v st'=>v=.bool (p x)∧st'=st) :
  S P 249 [B0 15 B9 l,.fn (.func g) [] cs] st fun v st'=>v=eI (idx p l)∧st'=st:=by
 refine F5 [] Tryz.func249 ?_
 refine ⟨[0,1,7,8],fun m vs st'=>∃ i:Nat,i≤l.length∧(∀ k,k<i→p (l.getD k default)=false)∧m=l.length - i∧vs=[B0 15 B9 l,.fn (.func g) [] cs,eI l.length,eI i]∧st'=st,?_,?_⟩
 ·conv=>whnf
  exact ⟨_,0,C9v _,fun k hk=>absurd hk (by omega),rfl,rfl,rfl⟩
 ·rintro m vs st' ⟨i,hi,hok,rfl,rfl,rfl⟩
  conv=>whnf
  cases h:decide ((i:Int)<(l.length:Int))
  ·have:=C9k h
   conv=>whnf
   refine ⟨?_,rfl⟩
   rw [L4 fun k hk=>hok k (by omega)];rfl
  ·have hi':i<l.length:=by have:=C9j h;omega
   conv=>whnf
   refine I8 ?_
   refine B6 (hg (l.getD (i:Int).toNat default) (by simp [hi'])) ?_
   rw [C9Q]
   cases hp:p (l.getD i default)
   ·conv=>whnf
    refine I9 ?_
    refine ⟨l.length - (i+1),by omega,i+1,by omega,fun k hk=>?_,rfl,by rw [C1 (by omega)],rfl⟩
    rcases C9T.1 hk with h' | h'
    ·exact hok k h'
    ·rw [h'];exact hp
   ·conv=>whnf
    refine ⟨?_,rfl⟩
    rw [V5 hi' hok hp];rfl
theorem B1u (l:List A8) (hl:l.length≤9223372036854775807) (g:FuncId) (cs:List AV) (p:A8→Bool) (st:St)
  (hg:∀ x,x∈l→S P g (B9 x::cs) st fun v st'=>v=.bool (p x)∧st'=st) :
  S P 197 [B0 15 B9 l,.fn (.func g) [] cs] st fun v st'=>v=.bool (l.any p)∧st'=st:=by
 refine F5 [] Tryz.func197 ?_
 refine J0 (A8m l hl g cs p st hg) ?_
 refine ⟨?_,rfl⟩
 rw [←W1];rfl
theorem A9S (l:List A4r) (hl:l.length≤9223372036854775807) (g:FuncId) (cs:List AV) (p:A4r→Bool) (st:St)
  (hg:∀ x,x∈l→S P g (A2t x::cs) st fun v st'=>v=.bool (p x)∧st'=st) :
  S P 308 [B0 3 A2t l,.fn (.func g) [] cs] st fun v st'=>v=eI (idx p l)∧st'=st:=by
 refine F5 [] Tryz.func308 ?_
 refine ⟨[0,1,7,8],fun m vs st'=>∃ i:Nat,i≤l.length∧(∀ k,k<i→p (l.getD k default)=false)∧m=l.length - i∧vs=[B0 3 A2t l,.fn (.func g) [] cs,eI l.length,eI i]∧st'=st,?_,?_⟩
 ·conv=>whnf
  exact ⟨_,0,C9v _,fun k hk=>absurd hk (by omega),rfl,rfl,rfl⟩
 ·rintro m vs st' ⟨i,hi,hok,rfl,rfl,rfl⟩
  conv=>whnf
  cases h:decide ((i:Int)<(l.length:Int))
  ·have:=C9k h
   conv=>whnf
   refine ⟨?_,rfl⟩
   rw [L4 fun k hk=>hok k (by omega)];rfl
  ·have hi':i<l.length:=by have:=C9j h;omega
   conv=>whnf
   refine I8 ?_
   refine B6 (hg (l.getD (i:Int).toNat default) (by simp [hi'])) ?_
   rw [C9Q]
   cases hp:p (l.getD i default)
   ·conv=>whnf
    refine I9 ?_
    refine ⟨l.length - (i+1),by omega,i+1,by omega,fun k hk=>?_,rfl,by rw [C1 (by omega)],rfl⟩
    rcases C9T.1 hk with h' | h'
    ·exact hok k h'
    ·rw [h'];exact hp
   ·conv=>whnf
    refine ⟨?_,rfl⟩
    rw [V5 hi' hok hp];rfl
theorem B2N (l:List A4r) (hl:l.length≤9223372036854775807) (g:FuncId) (cs:List AV) (p:A4r→Bool) (st:St)
  (hg:∀ x,x∈l→S P g (A2t x::cs) st fun v st'=>v=.bool (p x)∧st'=st) :
  S P 279 [B0 3 A2t l,.fn (.func g) [] cs] st fun v st'=>v=.bool (l.any p)∧st'=st:=by
 refine F5 [] Tryz.func279 ?_
 refine J0 (A9S l hl g cs p st hg) ?_
 refine ⟨?_,rfl⟩
 rw [←W1];rfl
theorem A9G (l:List Ab.Item) (hl:l.length≤9223372036854775807) (g:FuncId) (cs:List AV) (p:Ab.Item→Bool) (st:St)
  (hg:∀ x,x∈l→S P g (H2 x::cs) st fun v st'=>v=.bool (p x)∧st'=st) :
  S P 175 [B0 4 H2 l,.fn (.func g) [] cs] st fun v st'=>v=eI (idx p l)∧st'=st:=by
 refine F5 [] Tryz.func175 ?_
 refine ⟨[0,1,7,8],fun m vs st'=>∃ i:Nat,i≤l.length∧(∀ k,k<i→p (l.getD k default)=false)∧m=l.length - i∧vs=[B0 4 H2 l,.fn (.func g) [] cs,eI l.length,eI i]∧st'=st,?_,?_⟩
 ·conv=>whnf
  exact ⟨_,0,C9v _,fun k hk=>absurd hk (by omega),rfl,rfl,rfl⟩
 ·rintro m vs st' ⟨i,hi,hok,rfl,rfl,rfl⟩
  conv=>whnf
  cases h:decide ((i:Int)<(l.length:Int))
  ·have:=C9k h
   conv=>whnf
   refine ⟨?_,rfl⟩
   rw [L4 fun k hk=>hok k (by omega)];rfl
  ·have hi':i<l.length:=by have:=C9j h;omega
   conv=>whnf
   refine I8 ?_
   refine B6 (hg (l.getD (i:Int).toNat default) (by simp [hi'])) ?_
   rw [C9Q]
   cases hp:p (l.getD i default)
   ·conv=>whnf
    refine I9 ?_
    refine ⟨l.length - (i+1),by omega,i+1,by omega,fun k hk=>?_,rfl,by rw [C1 (by omega)],rfl⟩
    rcases C9T.1 hk with h' | h'
    ·exact hok k h'
    ·rw [h'];exact hp
   ·conv=>whnf
    refine ⟨?_,rfl⟩
    rw [V5 hi' hok hp];rfl
theorem B1L (l:List C9) (hl:l.length≤9223372036854775807) (v:C9) (st:St) :
  S P 268 [E3 l,eS v] st fun r st'=>r=eI (idx (fun y:C9=>v.toList==y.toList) l)∧st'=st:=by
 refine F5 [] Tryz.func268 ?_
 refine ⟨[0,1,7,8],fun m vs st'=>∃ i:Nat,i≤l.length∧(∀ k,k<i→(v.toList==(l.getD k default).toList)=false)∧m=l.length - i∧vs=[E3 l,eS v,eI l.length,eI i]∧st'=st,?_,?_⟩
 ·conv=>whnf
  exact ⟨_,0,C9v _,fun k hk=>absurd hk (by omega),rfl,rfl,rfl⟩
 ·rintro m vs st' ⟨i,hi,hok,rfl,rfl,rfl⟩
  conv=>whnf
  cases h:decide ((i:Int)<(l.length:Int))
  ·have:=C9k h
   conv=>whnf
   refine ⟨?_,rfl⟩
   rw [L4 (p:=fun y:C9=>v.toList==y.toList) fun k hk=>hok k (by omega)];rfl
  ·have hi':i<l.length:=by have:=C9j h;omega
   conv=>whnf
   refine ⟨rfl,⟨by omega,by omega⟩,?_⟩
   rw [C9Q];conv=>whnf
   cases hp:(v.toList==(l.getD i default).toList)
   ·conv=>whnf
    refine I9 ?_
    refine ⟨l.length - (i+1),by omega,i+1,by omega,fun k hk=>?_,rfl,by rw [C1 (by omega)],rfl⟩
    rcases C9T.1 hk with h' | h'
    ·exact hok k h'
    ·rw [h'];exact hp
   ·conv=>whnf
    refine ⟨?_,rfl⟩
    rw [V5 (p:=fun y:C9=>v.toList==y.toList) hi' hok hp];rfl
theorem B8s (l:List C9) (hl:l.length≤9223372036854775807) (v:C9) (st:St) :
  S P 231 [E3 l,eS v] st fun r st'=>r=.bool (l.any fun y:C9=>v.toList==y.toList)∧st'=st:=by
 refine F5 [] Tryz.func231 ?_
 refine J0 (B1L l hl v st) ?_
 refine ⟨?_,rfl⟩
 rw [←W1];rfl
theorem B1h (l:List Int) (hl:l.length≤9223372036854775807) (v:Int) (st:St) :
  S P 283 [B2 l,eI v] st fun r st'=>r=eI (idx (fun y:Int=>v==y) l)∧st'=st:=by
 refine F5 [] Tryz.func283 ?_
 refine ⟨[0,1,7,8],fun m vs st'=>∃ i:Nat,i≤l.length∧(∀ k,k<i→(v==l.getD k default)=false)∧m=l.length - i∧vs=[B2 l,eI v,eI l.length,eI i]∧st'=st,?_,?_⟩
 ·conv=>whnf
  exact ⟨_,0,C9v _,fun k hk=>absurd hk (by omega),rfl,rfl,rfl⟩
 ·rintro m vs st' ⟨i,hi,hok,rfl,rfl,rfl⟩
  conv=>whnf
  cases h:decide ((i:Int)<(l.length:Int))
  ·have:=C9k h
   conv=>whnf
   refine ⟨?_,rfl⟩
   rw [L4 (p:=fun y:Int=>v==y) fun k hk=>hok k (by omega)];rfl
  ·have hi':i<l.length:=by have:=C9j h;omega
   conv=>whnf
   refine ⟨rfl,⟨by omega,by omega⟩,?_⟩
   rw [C9Q];conv=>whnf
   cases hp:(v==l.getD i default)
   ·conv=>whnf
    refine I9 ?_
    refine ⟨l.length - (i+1),by omega,i+1,by omega,fun k hk=>?_,rfl,by rw [C1 (by omega)],rfl⟩
    rcases C9T.1 hk with h' | h'
    ·exact hok k h'
    ·rw [h'];exact hp
   ·conv=>whnf
    refine ⟨?_,rfl⟩
    rw [V5 (p:=fun y:Int=>v==y) hi' hok hp];rfl
theorem B7e (l:List Int) (hl:l.length≤9223372036854775807) (v:Int) (st:St) :
  S P 250 [B2 l,eI v] st fun r st'=>r=.bool (l.any fun y:Int=>v==y)∧st'=st:=by
 refine F5 [] Tryz.func250 ?_
 refine J0 (B1h l hl v st) ?_
 refine ⟨?_,rfl⟩
 rw [←W1];rfl
theorem A9P (l:List C9) (hl:l.length≤9223372036854775807) (v:C9) (st:St) :
  S P 343 [E3 l,eS v] st fun r st'=>r=eI (idx (fun y:C9=>v.toList==y.toList) l)∧st'=st:=by
 refine F5 [] Tryz.func343 ?_
 refine ⟨[0,1,7,8],fun m vs st'=>∃ i:Nat,i≤l.length∧(∀ k,k<i→(v.toList==(l.getD k default).toList)=false)∧m=l.length - i∧vs=[E3 l,eS v,eI l.length,eI i]∧st'=st,?_,?_⟩
 ·conv=>whnf
  exact ⟨_,0,C9v _,fun k hk=>absurd hk (by omega),rfl,rfl,rfl⟩
 ·rintro m vs st' ⟨i,hi,hok,rfl,rfl,rfl⟩
  conv=>whnf
  cases h:decide ((i:Int)<(l.length:Int))
  ·have:=C9k h
   conv=>whnf
   refine ⟨?_,rfl⟩
   rw [L4 (p:=fun y:C9=>v.toList==y.toList) fun k hk=>hok k (by omega)];rfl
  ·have hi':i<l.length:=by have:=C9j h;omega
   conv=>whnf
   refine ⟨rfl,⟨by omega,by omega⟩,?_⟩
   rw [C9Q];conv=>whnf
   cases hp:(v.toList==(l.getD i default).toList)
   ·conv=>whnf
    refine I9 ?_
    refine ⟨l.length - (i+1),by omega,i+1,by omega,fun k hk=>?_,rfl,by rw [C1 (by omega)],rfl⟩
    rcases C9T.1 hk with h' | h'
    ·exact hok k h'
    ·rw [h'];exact hp
   ·conv=>whnf
    refine ⟨?_,rfl⟩
    rw [V5 (p:=fun y:C9=>v.toList==y.toList) hi' hok hp];rfl
theorem B5a (l:List C9) (hl:l.length≤9223372036854775807) (v:C9) (st:St) :
  S P 333 [E3 l,eS v] st fun r st'=>r=.bool (l.any fun y:C9=>v.toList==y.toList)∧st'=st:=by
 refine F5 [] Tryz.func333 ?_
 refine J0 (A9P l hl v st) ?_
 refine ⟨?_,rfl⟩
 rw [←W1];rfl
theorem B5c (s:C9) (st:St):S P 331 [eS s] st fun v st'=>v=.bool (!J7 s)∧st'=st:=by
 refine F5 [] Tryz.func331 ?_
 refine J0 (A1f s st) ?_
 exact ⟨rfl,rfl⟩
def A7q (l:List C9):Bool:=A2w l&&!(l.any fun s=>!J7 s)
theorem B3V (l:List C9) (hl:l.length≤9223372036854775807) (st:St):S P 309 [E3 l] st fun v st'=>v=.bool (decide (l.length≤20)&&A7q l)∧st'=st:=by
 refine F5 [] Tryz.func309 ?_
 cases h:decide ((l.length:Int)≤20)
 ·have g:=C9k h
  conv=>whnf
  refine ⟨?_,rfl⟩
  rw [C9s (show ¬ l.length≤20 by omega)];rfl
 ·have g:=C9j h
  have e:decide (l.length≤20)=true:=D0r (by omega)
  conv=>whnf
  refine B6 (A7I l hl st) ?_
  unfold A7q
  cases hr:A2w l
  ·conv=>whnf
   exact ⟨by rw [e];rfl,rfl⟩
  ·conv=>whnf
   refine J0 (B2G l hl _ [] (fun s=>!J7 s) st fun x _=>B5c x st) ?_
   exact ⟨by rw [e];rfl,rfl⟩
def A5H (s:R4):Bool:=(decide (s.skus.length≤20)&&A7q s.skus)&&(decide (s.cats.length≤20)&&A7q s.cats)
theorem B4i (s:R4) (h1:s.skus.length≤9223372036854775807) (h2:s.cats.length≤9223372036854775807) (st:St):S P 281 [A9z s] st fun v st'=>v=.bool (A5H s)∧st'=st:=by
 refine F5 [1] Tryz.func281 ?_
 refine B6 (B3V _ h1 st) ?_
 unfold A5H
 cases hr:(decide (s.skus.length≤20)&&A7q s.skus)
 ·conv=>whnf
  exact ⟨rfl,rfl⟩
 ·conv=>whnf
  refine J0 (B3V _ h2 st) ?_
  exact ⟨rfl,rfl⟩
end Go.Proofs.YtaapofnkmpiknaaGreat
namespace Go.Ab
open Go
theorem U7 (x:Int):x.fdiv (2 ^ min (Int.toNat 32) IntKind.u64.bits)=x / 4294967296:=by
 show x.fdiv 4294967296=_
 exact C9L x (by decide)
theorem B7n (x:Int):IntKind.u64.wrap ↑(BitVec.ofInt IntKind.u64.bits x &&& BitVec.ofInt IntKind.u64.bits 4294967295).toNat=x % 4294967296:=by
 have h1:(BitVec.ofInt IntKind.u64.bits x &&& BitVec.ofInt IntKind.u64.bits 4294967295).toNat=(x % 18446744073709551616).toNat % 4294967296:=by
  show (BitVec.ofInt 64 x &&& BitVec.ofInt 64 4294967295).toNat=_
  rw [BitVec.toNat_and,BitVec.toNat_ofInt,BitVec.toNat_ofInt]
  have:(4294967295 % ((2 ^ 64:Nat):Int)).toNat=2 ^ 32 - 1:=by decide
  rw [this,Nat.and_two_pow_sub_one_eq_mod]
  rfl
 rw [h1]
 show (((x % 18446744073709551616).toNat % 4294967296:Nat):Int) % 18446744073709551616=_
 omega
theorem xy4 (x y:Int):x * y=(x / 4294967296 * (y / 4294967296)) * 18446744073709551616+(x / 4294967296 * (y % 4294967296)) * 4294967296+(x % 4294967296 * (y / 4294967296)) * 4294967296+x % 4294967296 * (y % 4294967296):=by
 have hx:=D0b x 4294967296
 have hy:=D0b y 4294967296
 generalize x / 4294967296=a at *
 generalize x % 4294967296=b at *
 generalize y / 4294967296=c at *
 generalize y % 4294967296=d at *
 subst hx hy
 rw [D1t,D1e,D1e]
 have e1:4294967296 * a * (4294967296 * c)=a * c * 18446744073709551616:=by
  rw [D1z,←D1z a,D1f a 4294967296,D1z,←D1z];omega
 have e2:4294967296 * a * d=a * d * 4294967296:=by rw [D1z,D1f]
 have e3:b * (4294967296 * c)=b * c * 4294967296:=by rw [D1f 4294967296 c,D1z]
 omega
theorem B9A {a b:Int} (ha:0≤a) (ha':a≤4294967295) (hb:0≤b) (hb':b≤4294967295):0≤a * b∧a * b≤18446744065119617025 :=
 ⟨D0x ha hb,Int.le_trans (D1U ha' hb' hb (by decide)) (by decide)⟩
end Go.Ab
namespace Go.Proofs.YtaapofnkmpiknaaGreat
open Go Go.Ab
attribute [local irreducible] upd del
theorem B3T (x y:Int) (hx:0≤x∧x<18446744073709551616) (hy:0≤y∧y<18446744073709551616) (st:St):S P 205 [.int .u64 x,.int .u64 y] st fun v st'=>v=.tuple [.int .u64 (x * y / 18446744073709551616),.int .u64 (x * y % 18446744073709551616)]∧st'=st:=by
 refine F5 [] Tryz.func205 ?_
 refine ⟨?_,rfl⟩
 have h4:=xy4 x y
 simp only [U7,B7n,A7u]
 have b1:=B9A (a:=x / 4294967296) (b:=y / 4294967296) (by omega) (by omega) (by omega) (by omega)
 have b2:=B9A (a:=x / 4294967296) (b:=y % 4294967296) (by omega) (by omega) (by omega) (by omega)
 have b3:=B9A (a:=x % 4294967296) (b:=y / 4294967296) (by omega) (by omega) (by omega) (by omega)
 have b4:=B9A (a:=x % 4294967296) (b:=y % 4294967296) (by omega) (by omega) (by omega) (by omega)
 have e1:IntKind.u64.wrap (x * y)=x * y % 18446744073709551616:=rfl
 rw [e1]
 generalize x / 4294967296 * (y / 4294967296)=p1 at *
 generalize x / 4294967296 * (y % 4294967296)=p2 at *
 generalize x % 4294967296 * (y / 4294967296)=p3 at *
 generalize x % 4294967296 * (y % 4294967296)=p4 at *
 generalize x * y=p at *
 have w:∀ z:Int,IntKind.u64.wrap z=z % 18446744073709551616:=fun _=>rfl
 simp only [w]
 congr 3
 congr 1
 omega
theorem B1 {x:Int} (h1:0≤x) (h2:x<18446744073709551616):IntKind.u64.wrap x=x:=by
 have w:IntKind.u64.wrap x=x % 18446744073709551616:=rfl
 rw [w];omega
def A6U (n:Nat) (x:Int):Prop:=x<2 ^ n∧(n=0∨(2:Int) ^ (n - 1)≤x)
def C0z (tab:C9):Bool:=decide (256≤tab.size)&&(List.range 256).all fun c=>Nat.ble (chr tab c).toNat 8&&Nat.blt c (2 ^ (chr tab c).toNat)&&(Nat.beq (chr tab c).toNat 0||Nat.ble (2 ^ ((chr tab c).toNat - 1)) c)
theorem X9 {tab:C9} {j:Int} {k:AV→Prop} (y:Nat) (hy:j=y) (hlt:y<256) (htab:C0z tab=true)
  (hk:∀ t:Nat,t≤8→A6U t y→k (.int .u8 t)):C1V tab j k:=by
 unfold C0z at htab
 rw [C9l] at htab
 obtain ⟨h1,h2⟩:=htab
 have h1:=C9j h1
 have h3:=C9O.1 h2 y (C9S.2 hlt)
 simp only [C9l,D0A,Nat.ble_eq,D1s,Nat.beq_eq] at h3
 obtain ⟨⟨h4,h5⟩,h6⟩:=h3
 refine C2s (i:=y) hy (by omega) ?_
 have hc:chr tab y=((chr tab y).toNat:Int):=by
  have:0≤chr tab y:=by unfold chr;split<;>omega
  omega
 rw [hc]
 refine hk _ h4 ⟨?_,?_⟩
 ·exact_mod_cast h5
 ·rcases h6 with h6 | h6
  ·exact .inl h6
  ·right;exact_mod_cast h6
theorem P0 {b t:Nat} {x y:Int} (hy:y=x / 2 ^ b) (ht:A6U t y) (h0:b=0∨0<y):A6U (b+t) x:=by
 obtain ⟨h1,h2⟩:=ht
 have hp:(0:Int)<2 ^ b:=Int.pow_pos (by decide)
 have hm:=D0b x (2 ^ b)
 have hl:=D0c x hp
 have hn:=D0k x (Int.ne_of_gt hp)
 rw [←hy] at hm
 refine ⟨?_,?_⟩
 ·rw [Int.pow_add]
  have:(2:Int) ^ b * (y+1)≤2 ^ b * 2 ^ t:=C9N (by omega) (D0W hp)
  rw [D1e,D1K] at this
  omega
 ·rcases h2 with h2 | h2
  ·rcases h0 with h0 | h0
   ·left;omega
   ·subst h2;simp at h1;omega
  ·rcases D0K t with ht | ht
   ·subst ht
    simp at h1 h2
    omega
   ·right
    rw [show b+t - 1=b+(t - 1) by omega,Int.pow_add]
    have:(2:Int) ^ b * 2 ^ (t - 1)≤2 ^ b * y:=C9N h2 (D0W hp)
    omega
theorem Z5 (x:Int):x.fdiv (2 ^ min (Int.toNat 16) IntKind.u64.bits)=x / 65536:=by
 show x.fdiv 65536=_
 exact C9L x (by decide)
theorem A3B (x:Int):x.fdiv (2 ^ min (Int.toNat 8) IntKind.u64.bits)=x / 256:=by
 show x.fdiv 256=_
 exact C9L x (by decide)
theorem A3g (x:Int):IntKind.u8.wrap x=x % 256:=rfl
theorem B9w (x:Int) (hx:0≤x∧x<18446744073709551616) (st:St):S P 284 [.int .u64 x] st fun v st'=>(∃ n:Nat,v=eI n∧n≤64∧A6U n x)∧st'=st:=by
 refine F5 [] Tryz.func284 ?_
 refine B7 (fun ha=>?_) (fun ha=>?_)<;>rw [ha]<;>(conv=>whnf)<;>refine B7 (fun hb=>?_) (fun hb=>?_)<;>rw [hb]<;>(conv=>whnf)<;>refine B7 (fun hc=>?_) (fun hc=>?_)<;>rw [hc]<;>(conv=>whnf)<;>have hh:=And.intro ha (And.intro hb hc)<;>clear ha hb hc
 ·simp only [U7,Z5,A3B,C9n,C9m,ge_iff_le] at hh
  refine X9 (x / 72057594037927936).toNat ?_ ?_ (by kernel_rfl) (fun t ht hb=>?_)
  ·simp only [U7,Z5,A3B,A3g];omega
  ·omega
  ·rw [D0N (by omega)] at hb;conv=>whnf
   refine ⟨⟨56+t,?_,by omega,P0 (b:=56) (y:=x / 72057594037927936) rfl hb (by omega)⟩,rfl⟩
   show AV.int .i64 _=AV.int .i64 _
   congr 1
   simp only [IntKind.wrap_i64]
   omega
 ·simp only [U7,Z5,A3B,C9n,C9m,ge_iff_le] at hh
  refine X9 (x / 281474976710656).toNat ?_ ?_ (by kernel_rfl) (fun t ht hb=>?_)
  ·simp only [U7,Z5,A3B,A3g];omega
  ·omega
  ·rw [D0N (by omega)] at hb;conv=>whnf
   refine ⟨⟨48+t,?_,by omega,P0 (b:=48) (y:=x / 281474976710656) rfl hb (by omega)⟩,rfl⟩
   show AV.int .i64 _=AV.int .i64 _
   congr 1
   simp only [IntKind.wrap_i64]
   omega
 ·simp only [U7,Z5,A3B,C9n,C9m,ge_iff_le] at hh
  refine X9 (x / 1099511627776).toNat ?_ ?_ (by kernel_rfl) (fun t ht hb=>?_)
  ·simp only [U7,Z5,A3B,A3g];omega
  ·omega
  ·rw [D0N (by omega)] at hb;conv=>whnf
   refine ⟨⟨40+t,?_,by omega,P0 (b:=40) (y:=x / 1099511627776) rfl hb (by omega)⟩,rfl⟩
   show AV.int .i64 _=AV.int .i64 _
   congr 1
   simp only [IntKind.wrap_i64]
   omega
 ·simp only [U7,Z5,A3B,C9n,C9m,ge_iff_le] at hh
  refine X9 (x / 4294967296).toNat ?_ ?_ (by kernel_rfl) (fun t ht hb=>?_)
  ·simp only [U7,Z5,A3B,A3g];omega
  ·omega
  ·rw [D0N (by omega)] at hb;conv=>whnf
   refine ⟨⟨32+t,?_,by omega,P0 (b:=32) (y:=x / 4294967296) rfl hb (by omega)⟩,rfl⟩
   show AV.int .i64 _=AV.int .i64 _
   congr 1
   simp only [IntKind.wrap_i64]
   omega
 ·simp only [U7,Z5,A3B,C9n,C9m,ge_iff_le] at hh
  refine X9 (x / 16777216).toNat ?_ ?_ (by kernel_rfl) (fun t ht hb=>?_)
  ·simp only [U7,Z5,A3B,A3g];omega
  ·omega
  ·rw [D0N (by omega)] at hb;conv=>whnf
   refine ⟨⟨24+t,?_,by omega,P0 (b:=24) (y:=x / 16777216) rfl hb (by omega)⟩,rfl⟩
   show AV.int .i64 _=AV.int .i64 _
   congr 1
   simp only [IntKind.wrap_i64]
   omega
 ·simp only [U7,Z5,A3B,C9n,C9m,ge_iff_le] at hh
  refine X9 (x / 65536).toNat ?_ ?_ (by kernel_rfl) (fun t ht hb=>?_)
  ·simp only [U7,Z5,A3B,A3g];omega
  ·omega
  ·rw [D0N (by omega)] at hb;conv=>whnf
   refine ⟨⟨16+t,?_,by omega,P0 (b:=16) (y:=x / 65536) rfl hb (by omega)⟩,rfl⟩
   show AV.int .i64 _=AV.int .i64 _
   congr 1
   simp only [IntKind.wrap_i64]
   omega
 ·simp only [U7,Z5,A3B,C9n,C9m,ge_iff_le] at hh
  refine X9 (x / 256).toNat ?_ ?_ (by kernel_rfl) (fun t ht hb=>?_)
  ·simp only [U7,Z5,A3B,A3g];omega
  ·omega
  ·rw [D0N (by omega)] at hb;conv=>whnf
   refine ⟨⟨8+t,?_,by omega,P0 (b:=8) (y:=x / 256) rfl hb (by omega)⟩,rfl⟩
   show AV.int .i64 _=AV.int .i64 _
   congr 1
   simp only [IntKind.wrap_i64]
   omega
 ·simp only [U7,Z5,A3B,C9n,C9m,ge_iff_le] at hh
  refine X9 (x / 1).toNat ?_ ?_ (by kernel_rfl) (fun t ht hb=>?_)
  ·simp only [U7,Z5,A3B,A3g];omega
  ·omega
  ·rw [D0N (by omega)] at hb;conv=>whnf
   refine ⟨⟨0+t,?_,by omega,P0 (b:=0) (y:=x / 1) rfl hb (by omega)⟩,rfl⟩
   show AV.int .i64 _=AV.int .i64 _
   congr 1
   simp only [IntKind.wrap_i64]
   omega
theorem B7i (x:Int) (hx:0≤x∧x<18446744073709551616) (st:St):S P 251 [.int .u64 x] st fun v st'=>(∃ n:Nat,v=eI ((64 - n:Nat):Int)∧n≤64∧A6U n x)∧st'=st:=by
 refine F5 [] Tryz.func251 ?_
 refine call (B9w x hx st) (fun v st' hv=>?_)
 obtain ⟨⟨n,rfl,hn,hb⟩,rfl⟩:=hv
 conv=>whnf
 refine ⟨⟨n,?_,hn,hb⟩,rfl⟩
 show AV.int .i64 _=AV.int .i64 _
 congr 1
 rw [IntKind.wrap_i64]
 omega
end Go.Proofs.YtaapofnkmpiknaaGreat
namespace Go.Ab
open Go
structure A3D (u n y1 y0 q r:Int):Prop where
 hu:u=q * y1+r
 hr:0≤r
 hq:(u * 4294967296+n) / (y1 * 4294967296+y0)≤q
 h0:0≤q
theorem A8F {u n y1 y0 q r:Int} (h:u=q * y1+r):u * 4294967296+n - q * (y1 * 4294967296+y0)=r * 4294967296+n - q * y0:=by
 subst h
 have e1:(q * y1+r) * 4294967296=q * y1 * 4294967296+r * 4294967296:=by omega
 have e2:q * (y1 * 4294967296+y0)=q * y1 * 4294967296+q * y0:=by rw [D1e,←D1z]
 omega
theorem B6R {u n y1 y0 q r:Int} (hy:0<y1 * 4294967296+y0) (h:u=q * y1+r) (hg:q * y0≤r * 4294967296+n):q≤(u * 4294967296+n) / (y1 * 4294967296+y0):=by
 have:=A8F (n:=n) (y0:=y0) h
 exact (Int.le_ediv_iff_mul_le hy).2 (by omega)
theorem A4D {u n y1 y0 q r:Int} (hy:0<y1 * 4294967296+y0) (h:u=q * y1+r) (hg:r * 4294967296+n<q * y0):(u * 4294967296+n) / (y1 * 4294967296+y0)<q:=by
 have:=A8F (n:=n) (y0:=y0) h
 exact (D0s hy).2 (by omega)
theorem A0N {u n y1 y0:Int} (hu:0≤u) (hn:0≤n) (hn':n<4294967296) (h1:2147483648≤y1) (h0:0≤y0) (h0':y0<4294967296) (hl:u<y1 * 4294967296+y0) :
  A3D u n y1 y0 (u / y1) (u - u / y1 * y1)∧u - u / y1 * y1<y1∧u / y1≤4294967297:=by
 have hm:=D0b u y1
 have hr:=D0k u (show y1≠0 by omega)
 have hr':=D0c u (show 0<y1 by omega)
 have hq:0≤u / y1:=D0v hu (by omega)
 have e:u - u / y1 * y1=u % y1:=by rw [D1f];omega
 refine ⟨⟨by omega,by omega,?_,hq⟩,by omega,?_⟩
 ·refine Int.le_of_lt_add_one ((D0s (by omega)).2 ?_)
  have a1:(u / y1+1) * (y1 * 4294967296)≤(u / y1+1) * (y1 * 4294967296+y0):=C9N (by omega) (by omega)
  have a2:(u / y1+1) * (y1 * 4294967296)=(y1 * (u / y1)+y1) * 4294967296:=by
   rw [←D1z,D1t,Int.one_mul,D1f y1]
  have a3:u+1≤y1 * (u / y1)+y1:=by omega
  omega
 ·refine Int.le_of_lt_add_one ((D0s (by omega)).2 ?_)
  have:(4294967297+1) * y1=y1 * 4294967296+2 * y1:=by omega
  omega
theorem A3D.step {u n y1 y0 q r:Int} (h:A3D u n y1 y0 q r) (hy1:0≤y1) (hg:(u * 4294967296+n) / (y1 * 4294967296+y0)<q) (hp:0≤(u * 4294967296+n) / (y1 * 4294967296+y0)):A3D u n y1 y0 (q - 1) (r+y1):=by
 obtain ⟨a,b,c,d⟩:=h
 refine ⟨?_,by omega,by omega,by omega⟩
 rw [Int.sub_mul,Int.one_mul];omega
theorem A3D.stop {u n y1 y0 q r:Int} (h:A3D u n y1 y0 q r) (hy:0<y1 * 4294967296+y0) (hg:q * y0≤r * 4294967296+n):q=(u * 4294967296+n) / (y1 * 4294967296+y0) :=
 Int.le_antisymm (B6R hy h.hu hg) h.hq
theorem B3m {U L Y:Int} (hY:0<Y) (hL:0≤L) :
  let q1:=(U * 4294967296+L / 4294967296) / Y
  let V:=(U * 4294967296+L / 4294967296) % Y
  let q0:=(V * 4294967296+L % 4294967296) / Y
  q1 * 4294967296+q0=(U * 18446744073709551616+L) / Y∧(V * 4294967296+L % 4294967296) % Y=(U * 18446744073709551616+L) % Y:=by
 intro q1 V q0
 have h1:Y * q1+V=U * 4294967296+L / 4294967296:=D0b _ Y
 have h2:Y * q0+(V * 4294967296+L % 4294967296) % Y=V * 4294967296+L % 4294967296:=D0b _ Y
 have h3:=D0k (V * 4294967296+L % 4294967296) (Int.ne_of_gt hY)
 have h4:=D0c (V * 4294967296+L % 4294967296) hY
 have h5:U * 18446744073709551616+L=(V * 4294967296+L % 4294967296) % Y+Y * (q1 * 4294967296+q0):=by
  rw [D1e,←D1z]
  omega
 rw [h5]
 constructor
 ·rw [Int.add_mul_ediv_left _ _ (Int.ne_of_gt hY),Int.ediv_eq_zero_of_lt h3 h4,Int.zero_add]
 ·rw [Int.add_mul_emod_self_left,Int.emod_emod]
theorem B5D {lo:Int} {s:Nat} (hs:s≤64):lo * 2 ^ s=(lo / 2 ^ (64 - s)) * 18446744073709551616+lo * 2 ^ s % 18446744073709551616:=by
 have e:(18446744073709551616:Int)=2 ^ (64 - s) * 2 ^ s:=by rw [←Int.pow_add,show 64 - s+s=64 by omega];rfl
 have hp:(0:Int)<2 ^ s:=Int.pow_pos (by decide)
 have:=D0b (lo * 2 ^ s) 18446744073709551616
 have h2:lo * 2 ^ s / 18446744073709551616=lo / 2 ^ (64 - s):=by
  rw [e,Int.mul_ediv_mul_of_pos_left _ _ hp]
 rw [h2] at this
 omega
theorem C1A {N y:Int} {s:Nat} (hy:0<y):N * 2 ^ s / (y * 2 ^ s)=N / y∧N * 2 ^ s % (y * 2 ^ s) / 2 ^ s=N % y:=by
 have hp:(0:Int)<2 ^ s:=Int.pow_pos (by decide)
 refine ⟨Int.mul_ediv_mul_of_pos_left _ _ hp,?_⟩
 rw [D1f N,D1f y,Int.mul_emod_mul_of_pos _ _ hp,Int.mul_ediv_cancel_left _ (Int.ne_of_gt hp)]
theorem C1q {a b:Int} {s:Nat} (ha:0≤a) (hb:0≤b) (hb':b<2 ^ s) (hab:a * 2 ^ s+b<18446744073709551616) :
  IntKind.u64.wrap ↑(BitVec.ofInt IntKind.u64.bits (a * 2 ^ s) ||| BitVec.ofInt IntKind.u64.bits b).toNat=a * 2 ^ s+b:=by
 obtain ⟨A,rfl⟩:=Int.eq_ofNat_of_zero_le ha
 obtain ⟨B,rfl⟩:=Int.eq_ofNat_of_zero_le hb
 have e1:((A:Int) * 2 ^ s)=((A * 2 ^ s:Nat):Int):=by rw [Int.natCast_mul,Int.natCast_pow];rfl
 have hB:B<2 ^ s:=by exact_mod_cast hb'
 have hA:A * 2 ^ s+B<18446744073709551616:=by rw [e1] at hab;generalize A * 2 ^ s=C at *;omega
 have h1:(BitVec.ofInt IntKind.u64.bits ((A:Int) * 2 ^ s) ||| BitVec.ofInt IntKind.u64.bits (B:Int)).toNat=A * 2 ^ s+B:=by
  rw [e1]
  show (BitVec.ofInt 64 ((A * 2 ^ s:Nat):Int) ||| BitVec.ofInt 64 (B:Int)).toNat=_
  rw [BitVec.ofInt_natCast,BitVec.ofInt_natCast,BitVec.toNat_or,BitVec.toNat_ofNat,BitVec.toNat_ofNat,D1V (by omega),D1V (by omega)]
  rw [←Nat.shiftLeft_eq,Nat.shiftLeft_add_eq_or_of_lt hB]
 rw [h1]
 have w:∀ z:Int,IntKind.u64.wrap z=z % 18446744073709551616:=fun _=>rfl
 rw [w,e1]
 omega
theorem J3 {U n Y q:Int} (hY:0<Y) (hY':Y<18446744073709551616) (hq:q=(U * 4294967296+n) / Y) :
  IntKind.u64.wrap (IntKind.u64.wrap (IntKind.u64.wrap (U * 4294967296)+n) - IntKind.u64.wrap (q * Y))=(U * 4294967296+n) % Y:=by
 have w:∀ z:Int,IntKind.u64.wrap z=z % 18446744073709551616:=fun _=>rfl
 have h1:=D0b (U * 4294967296+n) Y
 rw [←hq,D1f] at h1
 have h2:=D0k (U * 4294967296+n) (Int.ne_of_gt hY)
 have h3:=D0c (U * 4294967296+n) hY
 simp only [w]
 omega
end Go.Ab
namespace Go.Proofs.YtaapofnkmpiknaaGreat
open Go Go.Ab
attribute [local irreducible] upd del
set_option maxHeartbeats 2000000 in
theorem B3D (hi lo y:Int) (hh:0≤hi) (hl:0≤lo) (hl':lo<18446744073709551616) (hy:hi<y) (hy':y<18446744073709551616) (st:St) :
  S P 206 [.int .u64 hi,.int .u64 lo,.int .u64 y] st fun v st'=>v=.tuple [.int .u64 ((hi * 18446744073709551616+lo) / y),.int .u64 ((hi * 18446744073709551616+lo) % y)]∧st'=st:=by
 refine F5 [] Tryz.func206 ?_
 refine B7 (fun h=>?_) (fun h=>?_)
 ·simp at h;omega
 rw [h];conv=>whnf
 refine B7 (fun h=>?_) (fun h=>?_)
 ·simp at h;omega
 rw [h];conv=>whnf
 refine B7 (fun h=>?_) (fun h=>?_)
 ·rw [h];conv=>whnf
  refine ⟨[],[],[0,1,2,3,4,5,6,7],by kernel_rfl,?_⟩
  have hy0:decide (y=0)=false:=C9s (by omega)
  conv=>whnf
  rw [hy0];conv=>whnf
  rw [hy0];conv=>whnf
  have h0:hi=0:=by simpa using h
  have hq:0≤lo / y:=D0v hl (by omega)
  have hq':lo / y≤lo:=Int.ediv_le_self _ hl
  refine ⟨?_,rfl⟩
  show AV.tuple [AV.int .u64 _,AV.int .u64 _]=_
  rw [h0,Int.zero_mul,Int.zero_add,D0u hl,D1i hl,B1 hq (by omega)]
 ·rw [h];conv=>whnf
  refine call (B7i y ⟨by omega,hy'⟩ st) (fun v st' hv=>?_)
  obtain ⟨⟨n,rfl,hn,hb1,hb2⟩,rfl⟩:=hv
  have hn1:1≤n:=by
   rcases D0K n with e | e
   ·subst e;simp at hb1;omega
   ·exact e
  have hb3:(2:Int) ^ (n - 1)≤y:=by rcases hb2 with e | e;omega;exact e
  generalize hs:64 - n=s
  have hs1:s≤63:=by omega
  have hsn:n=64 - s:=by omega
  have hp:(0:Int)<2 ^ s:=Int.pow_pos (by decide)
  have wS:IntKind.u64.wrap (s:Int)=(s:Int):=B1 (by omega) (by omega)
  have wM:min (s:Int).toNat IntKind.u64.bits=s:=by rw [C9Q];show min s 64=s;omega
  have hY1:y * 2 ^ s<18446744073709551616:=by
   have:y * 2 ^ s<2 ^ n * 2 ^ s:=Int.mul_lt_mul_of_pos_right hb1 hp
   rw [←Int.pow_add,show n+s=64 by omega] at this
   exact this
  have hY2:9223372036854775808≤y * 2 ^ s:=by
   have:2 ^ (n - 1) * 2 ^ s≤y * 2 ^ s:=D0L hb3 (D0W hp)
   rw [←Int.pow_add,show n - 1+s=63 by omega] at this
   exact this
  have wY:IntKind.u64.wrap (y * 2 ^ s)=y * 2 ^ s:=B1 (by omega) hY1
  have w64:IntKind.u64.wrap (64 - (s:Int))=((64 - s:Nat):Int):=by rw [B1 (by omega) (by omega)];omega
  have wM2:min (((64 - s:Nat):Int)).toNat IntKind.u64.bits=64 - s:=by rw [C9Q];show min (64 - s) 64=64 - s;omega
  have hH:hi * 2 ^ s<y * 2 ^ s:=Int.mul_lt_mul_of_pos_right hy hp
  have hH0:0≤hi * 2 ^ s:=D0x hh (D0W hp)
  have wH:IntKind.u64.wrap (hi * 2 ^ s)=hi * 2 ^ s:=B1 hH0 (by omega)
  have hp2:(0:Int)<2 ^ (64 - s):=Int.pow_pos (by decide)
  have wF:lo.fdiv (2 ^ (64 - s))=lo / 2 ^ (64 - s):=C9L lo (D0W hp2)
  have hT0:0≤lo / 2 ^ (64 - s):=D0v hl (D0W hp2)
  have hT:lo / 2 ^ (64 - s)<2 ^ s:=by
   refine (D0s hp2).2 ?_
   rw [←Int.pow_add,show s+(64 - s)=64 by omega];exact hl'
  have hU:hi * 2 ^ s+lo / 2 ^ (64 - s)<y * 2 ^ s:=by
   have:(hi+1) * 2 ^ s≤y * 2 ^ s:=D0L (by omega) (D0W hp)
   rw [D1t,Int.one_mul] at this
   omega
  have wO:=C1q (a:=hi) (b:=lo / 2 ^ (64 - s)) (s:=s) hh hT0 hT (by omega)
  conv=>whnf
  rw [wS,wM,wY,w64,C9s (show ¬((64 - s:Nat):Int)<0 by omega)];conv=>whnf
  rw [wH,wM2,wF,wO]
  rw [wM]
  have hsplit:=B5D (lo:=lo) (s:=s) (by omega)
  have wL:IntKind.u64.wrap (lo * 2 ^ s)=lo * 2 ^ s % 18446744073709551616:=rfl
  rw [wL]
  have hsc:=C1A (N:=hi * 18446744073709551616+lo) (y:=y) (s:=s) (by omega)
  have hL0:=D0k (lo * 2 ^ s) (show (18446744073709551616:Int)≠0 by decide)
  have hL1:=D0c (lo * 2 ^ s) (show (0:Int)<18446744073709551616 by decide)
  have hN:(hi * 18446744073709551616+lo) * 2 ^ s=(hi * 2 ^ s+lo / 2 ^ (64 - s)) * 18446744073709551616+lo * 2 ^ s % 18446744073709551616:=by
   rw [D1t,D1t,Int.mul_right_comm];omega
  rw [hN] at hsc
  have hU0:0≤hi * 2 ^ s+lo / 2 ^ (64 - s):=by omega
  have h2d:=B3m (U:=hi * 2 ^ s+lo / 2 ^ (64 - s)) (L:=lo * 2 ^ s % 18446744073709551616) (Y:=y * 2 ^ s) (by omega) hL0
  rw [hsc.1] at h2d
  clear wO wL hsplit hN
  generalize hi * 2 ^ s+lo / 2 ^ (64 - s)=U at *
  generalize lo * 2 ^ s % 18446744073709551616=L at *
  have hY1':y * 2 ^ s=y * 2 ^ s:=rfl
  generalize hYY:y * 2 ^ s=Y at *
  rw [U7 Y,B7n Y,U7 L,B7n L]
  clear wS w64 wM2 wH wF hH hT hT0 hH0 hp2 hY1' wY
  have eY:Y=Y / 4294967296 * 4294967296+Y % 4294967296:=by omega
  have a1:2147483648≤Y / 4294967296:=by omega
  have a1':Y / 4294967296≤4294967295:=by omega
  have a0:0≤Y % 4294967296:=by omega
  have a0':Y % 4294967296<4294967296:=by omega
  have b1:0≤L / 4294967296:=by omega
  have b1':L / 4294967296<4294967296:=by omega
  have b0:0≤L % 4294967296:=by omega
  have b0':L % 4294967296<4294967296:=by omega
  generalize Y / 4294967296=y1 at *
  generalize Y % 4294967296=y0 at *
  generalize L / 4294967296=n1 at *
  generalize L % 4294967296=n0 at *
  obtain ⟨d1,d2,d3⟩:=A0N hU0 b1 b1' a1 a0 a0' (show U<y1 * 4294967296+y0 by omega)
  have g0:0≤(U * 4294967296+n1) / (y1 * 4294967296+y0):=D0v (by omega) (by omega)
  have g1:(U * 4294967296+n1) / (y1 * 4294967296+y0)<4294967296:=(D0s (by omega)).2 (by omega)
  rw [C9s (show ¬ y1=0 by omega)];conv=>whnf
  have wq:IntKind.u64.wrap (U.tdiv y1)=U / y1:=by rw [D0u hU0];exact B1 d1.h0 (by omega)
  rw [wq]
  have hq1:=d1.hu
  have hr1:=d1.hr
  have wm:IntKind.u64.wrap (U / y1 * y1)=U / y1 * y1:=B1 (D0x d1.h0 (by omega)) (by omega)
  rw [wm]
  have wr:IntKind.u64.wrap (U - U / y1 * y1)=U - U / y1 * y1:=B1 hr1 (by omega)
  rw [wr]
  generalize hqq:U / y1=q at *
  generalize hrr:U - q * y1=r at *
  have eB:∀ q':Int,0≤q'→q'≤4294967296→0≤q' * y0∧q' * y0≤4294967296 * y0:=fun q' h1 h2=>⟨D0x h1 a0,D0L h2 a0⟩
  clear wq wm wr hqq hrr hq1 hr1
  refine ⟨[2,8,9,10,11,13,14,15,16],fun m vs st''=>∃ q r:Int,A3D U n1 y1 y0 q r∧r<4294967296∧q≤4294967297∧m=q.toNat∧vs=[.int .u64 Y,.int .u64 s,.int .u64 y1,.int .u64 y0,.int .u64 U,.int .u64 n1,.int .u64 n0,.int .u64 q,.int .u64 r]∧st''=st',?_,?_⟩
  ·conv=>whnf
   exact ⟨_,q,r,d1,by omega,d3,rfl,rfl,rfl⟩
  clear d1 d2 d3
  rintro m vs st'' ⟨q,r,d1A,d2A,d3A,rfl,rfl,rfl⟩
  have G0A:=g0
  have hr0A:=d1A.hr
  have hq0A:=d1A.h0
  conv=>whnf
  cases hcA:decide (q≥4294967296)
  ·have hc'A:=C9k hcA
   obtain ⟨e1A,e2A⟩:=eB q hq0A (by omega)
   conv=>whnf
   rw [B1 (x:=q * y0) e1A (by omega),B1 (x:=4294967296 * r) (by omega) (by omega),B1 (x:=4294967296 * r+n1) (by omega) (by omega)]
   cases hdA:decide (q * y0>4294967296 * r+n1)
   ·have hd'A:=C9k hdA
    have EQA:q=(U * 4294967296+n1) / Y:=by rw [eY];exact d1A.stop (by omega) (by omega)
    conv=>whnf
    have eV:=J3 (Y:=Y) (by omega) hY1 EQA
    rw [eV]
    have hV0:=D0k (U * 4294967296+n1) (show Y≠0 by omega)
    have hV1:=D0c (U * 4294967296+n1) (show 0<Y by omega)
    clear eV
    dsimp only at h2d
    generalize (U * 4294967296+n1) % Y=V at *
    rw [C9s (show ¬ y1=0 by omega)];conv=>whnf
    obtain ⟨f1,f2,f3⟩:=A0N (u:=V) (n:=n0) hV0 b0 b0' a1 a0 a0' (by omega)
    have j0:0≤(V * 4294967296+n0) / (y1 * 4294967296+y0):=D0v (by omega) (by omega)
    have j1:(V * 4294967296+n0) / (y1 * 4294967296+y0)<4294967296:=(D0s (by omega)).2 (by omega)
    have wq:IntKind.u64.wrap (V.tdiv y1)=V / y1:=by rw [D0u hV0];exact B1 f1.h0 (by omega)
    rw [wq]
    have hq1:=f1.hu
    have hr1:=f1.hr
    have wm:IntKind.u64.wrap (V / y1 * y1)=V / y1 * y1:=B1 (D0x f1.h0 (by omega)) (by omega)
    rw [wm]
    have wr:IntKind.u64.wrap (V - V / y1 * y1)=V - V / y1 * y1:=B1 hr1 (by omega)
    rw [wr]
    generalize V / y1=qs at *
    generalize V - qs * y1=rs at *
    clear wq wm wr hq1 hr1
    conv=>whnf
    refine ⟨[2,8,9,10,11,13,14,15,16,17,18],fun m vs st3=>∃ q2 r2:Int,A3D V n0 y1 y0 q2 r2∧r2<4294967296∧q2≤4294967297∧m=q2.toNat∧vs=[.int .u64 Y,.int .u64 s,.int .u64 y1,.int .u64 y0,.int .u64 U,.int .u64 n1,.int .u64 n0,.int .u64 q,.int .u64 r2,.int .u64 V,.int .u64 q2]∧st3=st'',?_,?_⟩
    ·conv=>whnf
     exact ⟨_,qs,rs,f1,by omega,f3,rfl,rfl,rfl⟩
    clear f1 f2 f3
    rintro m vs st3 ⟨q2,r2,d1B,d2B,d3B,rfl,rfl,rfl⟩
    have G0B:=j0
    have hr0B:=d1B.hr
    have hq0B:=d1B.h0
    conv=>whnf
    cases hcB:decide (q2≥4294967296)
    ·have hc'B:=C9k hcB
     obtain ⟨e1B,e2B⟩:=eB q2 hq0B (by omega)
     conv=>whnf
     rw [B1 (x:=q2 * y0) e1B (by omega),B1 (x:=4294967296 * r2) (by omega) (by omega),B1 (x:=4294967296 * r2+n0) (by omega) (by omega)]
     cases hdB:decide (q2 * y0>4294967296 * r2+n0)
     ·have hd'B:=C9k hdB
      have EQB:q2=(V * 4294967296+n0) / Y:=by rw [eY];exact d1B.stop (by omega) (by omega)
      conv=>whnf
      have eR:=J3 (U:=V) (n:=n0) (Y:=Y) (by omega) hY1 EQB
      conv=>whnf
      try rw [C9s (show ¬(s:Int)<0 by omega)]
      conv=>whnf
      rw [wM,eR]
      obtain ⟨k1,k2⟩:=h2d
      have r1:q * 4294967296+q2=(hi * 18446744073709551616+lo) / y:=by rw [EQA,EQB];exact k1
      have r2:((V * 4294967296+n0) % Y).fdiv (2 ^ s)=(hi * 18446744073709551616+lo) % y:=by
       rw [C9L _ (D0W hp),k2];exact hsc.2
      have lq1:0≤q∧q<4294967296:=by rw [EQA,eY];exact ⟨g0,g1⟩
      have lq0:0≤q2∧q2<4294967296:=by rw [EQB,eY];exact ⟨j0,j1⟩
      refine ⟨?_,rfl⟩
      show AV.tuple [AV.int .u64 _,AV.int .u64 _]=_
      rw [B1 (x:=q * 4294967296) (by omega) (by omega),B1 (x:=q * 4294967296+q2) (by omega) (by omega),r1,r2]
     ·have hd'B:=C9j hdB
      have dSB:=d1B.step (by omega) (A4D (by omega) d1B.hu (by omega)) G0B
      have hqpB:=dSB.h0
      conv=>whnf
      rw [B1 (x:=q2 - 1) (by omega) (by omega),B1 (x:=r2+y1) (by omega) (by omega)]
      cases hbB:decide (r2+y1≥4294967296)
      ·have hb'B:=C9k hbB
       conv=>whnf
       refine I9 ?_
       exact ⟨(q2 - 1).toNat,by omega,q2 - 1,r2+y1,dSB,by omega,by omega,rfl,rfl,rfl⟩
      ·have hb'B:=C9j hbB
       obtain ⟨e3B,e4B⟩:=eB (q2 - 1) (by omega) (by omega)
       have EQB:q2 - 1=(V * 4294967296+n0) / Y:=by rw [eY];exact dSB.stop (by omega) (by omega)
       conv=>whnf
       have eR:=J3 (U:=V) (n:=n0) (Y:=Y) (by omega) hY1 EQB
       conv=>whnf
       try rw [C9s (show ¬(s:Int)<0 by omega)]
       conv=>whnf
       rw [wM,eR]
       obtain ⟨k1,k2⟩:=h2d
       have r1:q * 4294967296+(q2 - 1)=(hi * 18446744073709551616+lo) / y:=by rw [EQA,EQB];exact k1
       have r2:((V * 4294967296+n0) % Y).fdiv (2 ^ s)=(hi * 18446744073709551616+lo) % y:=by
        rw [C9L _ (D0W hp),k2];exact hsc.2
       have lq1:0≤q∧q<4294967296:=by rw [EQA,eY];exact ⟨g0,g1⟩
       have lq0:0≤(q2 - 1)∧(q2 - 1)<4294967296:=by rw [EQB,eY];exact ⟨j0,j1⟩
       refine ⟨?_,rfl⟩
       show AV.tuple [AV.int .u64 _,AV.int .u64 _]=_
       rw [B1 (x:=q * 4294967296) (by omega) (by omega),B1 (x:=q * 4294967296+(q2 - 1)) (by omega) (by omega),r1,r2]
    ·have hc'B:=C9j hcB
     have dSB:=d1B.step (by omega) (by omega) G0B
     have hqpB:=dSB.h0
     conv=>whnf
     rw [B1 (x:=q2 - 1) (by omega) (by omega),B1 (x:=r2+y1) (by omega) (by omega)]
     cases hbB:decide (r2+y1≥4294967296)
     ·have hb'B:=C9k hbB
      conv=>whnf
      refine I9 ?_
      exact ⟨(q2 - 1).toNat,by omega,q2 - 1,r2+y1,dSB,by omega,by omega,rfl,rfl,rfl⟩
     ·have hb'B:=C9j hbB
      obtain ⟨e3B,e4B⟩:=eB (q2 - 1) (by omega) (by omega)
      have EQB:q2 - 1=(V * 4294967296+n0) / Y:=by rw [eY];exact dSB.stop (by omega) (by omega)
      conv=>whnf
      have eR:=J3 (U:=V) (n:=n0) (Y:=Y) (by omega) hY1 EQB
      conv=>whnf
      try rw [C9s (show ¬(s:Int)<0 by omega)]
      conv=>whnf
      rw [wM,eR]
      obtain ⟨k1,k2⟩:=h2d
      have r1:q * 4294967296+(q2 - 1)=(hi * 18446744073709551616+lo) / y:=by rw [EQA,EQB];exact k1
      have r2:((V * 4294967296+n0) % Y).fdiv (2 ^ s)=(hi * 18446744073709551616+lo) % y:=by
       rw [C9L _ (D0W hp),k2];exact hsc.2
      have lq1:0≤q∧q<4294967296:=by rw [EQA,eY];exact ⟨g0,g1⟩
      have lq0:0≤(q2 - 1)∧(q2 - 1)<4294967296:=by rw [EQB,eY];exact ⟨j0,j1⟩
      refine ⟨?_,rfl⟩
      show AV.tuple [AV.int .u64 _,AV.int .u64 _]=_
      rw [B1 (x:=q * 4294967296) (by omega) (by omega),B1 (x:=q * 4294967296+(q2 - 1)) (by omega) (by omega),r1,r2]
   ·have hd'A:=C9j hdA
    have dSA:=d1A.step (by omega) (A4D (by omega) d1A.hu (by omega)) G0A
    have hqpA:=dSA.h0
    conv=>whnf
    rw [B1 (x:=q - 1) (by omega) (by omega),B1 (x:=r+y1) (by omega) (by omega)]
    cases hbA:decide (r+y1≥4294967296)
    ·have hb'A:=C9k hbA
     conv=>whnf
     refine I9 ?_
     exact ⟨(q - 1).toNat,by omega,q - 1,r+y1,dSA,by omega,by omega,rfl,rfl,rfl⟩
    ·have hb'A:=C9j hbA
     obtain ⟨e3A,e4A⟩:=eB (q - 1) (by omega) (by omega)
     have EQA:q - 1=(U * 4294967296+n1) / Y:=by rw [eY];exact dSA.stop (by omega) (by omega)
     conv=>whnf
     have eV:=J3 (Y:=Y) (by omega) hY1 EQA
     rw [eV]
     have hV0:=D0k (U * 4294967296+n1) (show Y≠0 by omega)
     have hV1:=D0c (U * 4294967296+n1) (show 0<Y by omega)
     clear eV
     dsimp only at h2d
     generalize (U * 4294967296+n1) % Y=V at *
     rw [C9s (show ¬ y1=0 by omega)];conv=>whnf
     obtain ⟨f1,f2,f3⟩:=A0N (u:=V) (n:=n0) hV0 b0 b0' a1 a0 a0' (by omega)
     have j0:0≤(V * 4294967296+n0) / (y1 * 4294967296+y0):=D0v (by omega) (by omega)
     have j1:(V * 4294967296+n0) / (y1 * 4294967296+y0)<4294967296:=(D0s (by omega)).2 (by omega)
     have wq:IntKind.u64.wrap (V.tdiv y1)=V / y1:=by rw [D0u hV0];exact B1 f1.h0 (by omega)
     rw [wq]
     have hq1:=f1.hu
     have hr1:=f1.hr
     have wm:IntKind.u64.wrap (V / y1 * y1)=V / y1 * y1:=B1 (D0x f1.h0 (by omega)) (by omega)
     rw [wm]
     have wr:IntKind.u64.wrap (V - V / y1 * y1)=V - V / y1 * y1:=B1 hr1 (by omega)
     rw [wr]
     generalize V / y1=qs at *
     generalize V - qs * y1=rs at *
     clear wq wm wr hq1 hr1
     conv=>whnf
     refine ⟨[2,8,9,10,11,13,14,15,16,17,18],fun m vs st3=>∃ q2 r2:Int,A3D V n0 y1 y0 q2 r2∧r2<4294967296∧q2≤4294967297∧m=q2.toNat∧vs=[.int .u64 Y,.int .u64 s,.int .u64 y1,.int .u64 y0,.int .u64 U,.int .u64 n1,.int .u64 n0,.int .u64 (q - 1),.int .u64 r2,.int .u64 V,.int .u64 q2]∧st3=st'',?_,?_⟩
     ·conv=>whnf
      exact ⟨_,qs,rs,f1,by omega,f3,rfl,rfl,rfl⟩
     clear f1 f2 f3
     rintro m vs st3 ⟨q2,r2,d1B,d2B,d3B,rfl,rfl,rfl⟩
     have G0B:=j0
     have hr0B:=d1B.hr
     have hq0B:=d1B.h0
     conv=>whnf
     cases hcB:decide (q2≥4294967296)
     ·have hc'B:=C9k hcB
      obtain ⟨e1B,e2B⟩:=eB q2 hq0B (by omega)
      conv=>whnf
      rw [B1 (x:=q2 * y0) e1B (by omega),B1 (x:=4294967296 * r2) (by omega) (by omega),B1 (x:=4294967296 * r2+n0) (by omega) (by omega)]
      cases hdB:decide (q2 * y0>4294967296 * r2+n0)
      ·have hd'B:=C9k hdB
       have EQB:q2=(V * 4294967296+n0) / Y:=by rw [eY];exact d1B.stop (by omega) (by omega)
       conv=>whnf
       have eR:=J3 (U:=V) (n:=n0) (Y:=Y) (by omega) hY1 EQB
       conv=>whnf
       try rw [C9s (show ¬(s:Int)<0 by omega)]
       conv=>whnf
       rw [wM,eR]
       obtain ⟨k1,k2⟩:=h2d
       have r1:(q - 1) * 4294967296+q2=(hi * 18446744073709551616+lo) / y:=by rw [EQA,EQB];exact k1
       have r2:((V * 4294967296+n0) % Y).fdiv (2 ^ s)=(hi * 18446744073709551616+lo) % y:=by
        rw [C9L _ (D0W hp),k2];exact hsc.2
       have lq1:0≤(q - 1)∧(q - 1)<4294967296:=by rw [EQA,eY];exact ⟨g0,g1⟩
       have lq0:0≤q2∧q2<4294967296:=by rw [EQB,eY];exact ⟨j0,j1⟩
       refine ⟨?_,rfl⟩
       show AV.tuple [AV.int .u64 _,AV.int .u64 _]=_
       rw [B1 (x:=(q - 1) * 4294967296) (by omega) (by omega),B1 (x:=(q - 1) * 4294967296+q2) (by omega) (by omega),r1,r2]
      ·have hd'B:=C9j hdB
       have dSB:=d1B.step (by omega) (A4D (by omega) d1B.hu (by omega)) G0B
       have hqpB:=dSB.h0
       conv=>whnf
       rw [B1 (x:=q2 - 1) (by omega) (by omega),B1 (x:=r2+y1) (by omega) (by omega)]
       cases hbB:decide (r2+y1≥4294967296)
       ·have hb'B:=C9k hbB
        conv=>whnf
        refine I9 ?_
        exact ⟨(q2 - 1).toNat,by omega,q2 - 1,r2+y1,dSB,by omega,by omega,rfl,rfl,rfl⟩
       ·have hb'B:=C9j hbB
        obtain ⟨e3B,e4B⟩:=eB (q2 - 1) (by omega) (by omega)
        have EQB:q2 - 1=(V * 4294967296+n0) / Y:=by rw [eY];exact dSB.stop (by omega) (by omega)
        conv=>whnf
        have eR:=J3 (U:=V) (n:=n0) (Y:=Y) (by omega) hY1 EQB
        conv=>whnf
        try rw [C9s (show ¬(s:Int)<0 by omega)]
        conv=>whnf
        rw [wM,eR]
        obtain ⟨k1,k2⟩:=h2d
        have r1:(q - 1) * 4294967296+(q2 - 1)=(hi * 18446744073709551616+lo) / y:=by rw [EQA,EQB];exact k1
        have r2:((V * 4294967296+n0) % Y).fdiv (2 ^ s)=(hi * 18446744073709551616+lo) % y:=by
         rw [C9L _ (D0W hp),k2];exact hsc.2
        have lq1:0≤(q - 1)∧(q - 1)<4294967296:=by rw [EQA,eY];exact ⟨g0,g1⟩
        have lq0:0≤(q2 - 1)∧(q2 - 1)<4294967296:=by rw [EQB,eY];exact ⟨j0,j1⟩
        refine ⟨?_,rfl⟩
        show AV.tuple [AV.int .u64 _,AV.int .u64 _]=_
        rw [B1 (x:=(q - 1) * 4294967296) (by omega) (by omega),B1 (x:=(q - 1) * 4294967296+(q2 - 1)) (by omega) (by omega),r1,r2]
     ·have hc'B:=C9j hcB
      have dSB:=d1B.step (by omega) (by omega) G0B
      have hqpB:=dSB.h0
      conv=>whnf
      rw [B1 (x:=q2 - 1) (by omega) (by omega),B1 (x:=r2+y1) (by omega) (by omega)]
      cases hbB:decide (r2+y1≥4294967296)
      ·have hb'B:=C9k hbB
       conv=>whnf
       refine I9 ?_
       exact ⟨(q2 - 1).toNat,by omega,q2 - 1,r2+y1,dSB,by omega,by omega,rfl,rfl,rfl⟩
      ·have hb'B:=C9j hbB
       obtain ⟨e3B,e4B⟩:=eB (q2 - 1) (by omega) (by omega)
       have EQB:q2 - 1=(V * 4294967296+n0) / Y:=by rw [eY];exact dSB.stop (by omega) (by omega)
       conv=>whnf
       have eR:=J3 (U:=V) (n:=n0) (Y:=Y) (by omega) hY1 EQB
       conv=>whnf
       try rw [C9s (show ¬(s:Int)<0 by omega)]
       conv=>whnf
       rw [wM,eR]
       obtain ⟨k1,k2⟩:=h2d
       have r1:(q - 1) * 4294967296+(q2 - 1)=(hi * 18446744073709551616+lo) / y:=by rw [EQA,EQB];exact k1
       have r2:((V * 4294967296+n0) % Y).fdiv (2 ^ s)=(hi * 18446744073709551616+lo) % y:=by
        rw [C9L _ (D0W hp),k2];exact hsc.2
       have lq1:0≤(q - 1)∧(q - 1)<4294967296:=by rw [EQA,eY];exact ⟨g0,g1⟩
       have lq0:0≤(q2 - 1)∧(q2 - 1)<4294967296:=by rw [EQB,eY];exact ⟨j0,j1⟩
       refine ⟨?_,rfl⟩
       show AV.tuple [AV.int .u64 _,AV.int .u64 _]=_
       rw [B1 (x:=(q - 1) * 4294967296) (by omega) (by omega),B1 (x:=(q - 1) * 4294967296+(q2 - 1)) (by omega) (by omega),r1,r2]
  ·have hc'A:=C9j hcA
   have dSA:=d1A.step (by omega) (by omega) G0A
   have hqpA:=dSA.h0
   conv=>whnf
   rw [B1 (x:=q - 1) (by omega) (by omega),B1 (x:=r+y1) (by omega) (by omega)]
   cases hbA:decide (r+y1≥4294967296)
   ·have hb'A:=C9k hbA
    conv=>whnf
    refine I9 ?_
    exact ⟨(q - 1).toNat,by omega,q - 1,r+y1,dSA,by omega,by omega,rfl,rfl,rfl⟩
   ·have hb'A:=C9j hbA
    obtain ⟨e3A,e4A⟩:=eB (q - 1) (by omega) (by omega)
    have EQA:q - 1=(U * 4294967296+n1) / Y:=by rw [eY];exact dSA.stop (by omega) (by omega)
    conv=>whnf
    have eV:=J3 (Y:=Y) (by omega) hY1 EQA
    rw [eV]
    have hV0:=D0k (U * 4294967296+n1) (show Y≠0 by omega)
    have hV1:=D0c (U * 4294967296+n1) (show 0<Y by omega)
    clear eV
    dsimp only at h2d
    generalize (U * 4294967296+n1) % Y=V at *
    rw [C9s (show ¬ y1=0 by omega)];conv=>whnf
    obtain ⟨f1,f2,f3⟩:=A0N (u:=V) (n:=n0) hV0 b0 b0' a1 a0 a0' (by omega)
    have j0:0≤(V * 4294967296+n0) / (y1 * 4294967296+y0):=D0v (by omega) (by omega)
    have j1:(V * 4294967296+n0) / (y1 * 4294967296+y0)<4294967296:=(D0s (by omega)).2 (by omega)
    have wq:IntKind.u64.wrap (V.tdiv y1)=V / y1:=by rw [D0u hV0];exact B1 f1.h0 (by omega)
    rw [wq]
    have hq1:=f1.hu
    have hr1:=f1.hr
    have wm:IntKind.u64.wrap (V / y1 * y1)=V / y1 * y1:=B1 (D0x f1.h0 (by omega)) (by omega)
    rw [wm]
    have wr:IntKind.u64.wrap (V - V / y1 * y1)=V - V / y1 * y1:=B1 hr1 (by omega)
    rw [wr]
    generalize V / y1=qs at *
    generalize V - qs * y1=rs at *
    clear wq wm wr hq1 hr1
    conv=>whnf
    refine ⟨[2,8,9,10,11,13,14,15,16,17,18],fun m vs st3=>∃ q2 r2:Int,A3D V n0 y1 y0 q2 r2∧r2<4294967296∧q2≤4294967297∧m=q2.toNat∧vs=[.int .u64 Y,.int .u64 s,.int .u64 y1,.int .u64 y0,.int .u64 U,.int .u64 n1,.int .u64 n0,.int .u64 (q - 1),.int .u64 r2,.int .u64 V,.int .u64 q2]∧st3=st'',?_,?_⟩
    ·conv=>whnf
     exact ⟨_,qs,rs,f1,by omega,f3,rfl,rfl,rfl⟩
    clear f1 f2 f3
    rintro m vs st3 ⟨q2,r2,d1B,d2B,d3B,rfl,rfl,rfl⟩
    have G0B:=j0
    have hr0B:=d1B.hr
    have hq0B:=d1B.h0
    conv=>whnf
    cases hcB:decide (q2≥4294967296)
    ·have hc'B:=C9k hcB
     obtain ⟨e1B,e2B⟩:=eB q2 hq0B (by omega)
     conv=>whnf
     rw [B1 (x:=q2 * y0) e1B (by omega),B1 (x:=4294967296 * r2) (by omega) (by omega),B1 (x:=4294967296 * r2+n0) (by omega) (by omega)]
     cases hdB:decide (q2 * y0>4294967296 * r2+n0)
     ·have hd'B:=C9k hdB
      have EQB:q2=(V * 4294967296+n0) / Y:=by rw [eY];exact d1B.stop (by omega) (by omega)
      conv=>whnf
      have eR:=J3 (U:=V) (n:=n0) (Y:=Y) (by omega) hY1 EQB
      conv=>whnf
      try rw [C9s (show ¬(s:Int)<0 by omega)]
      conv=>whnf
      rw [wM,eR]
      obtain ⟨k1,k2⟩:=h2d
      have r1:(q - 1) * 4294967296+q2=(hi * 18446744073709551616+lo) / y:=by rw [EQA,EQB];exact k1
      have r2:((V * 4294967296+n0) % Y).fdiv (2 ^ s)=(hi * 18446744073709551616+lo) % y:=by
       rw [C9L _ (D0W hp),k2];exact hsc.2
      have lq1:0≤(q - 1)∧(q - 1)<4294967296:=by rw [EQA,eY];exact ⟨g0,g1⟩
      have lq0:0≤q2∧q2<4294967296:=by rw [EQB,eY];exact ⟨j0,j1⟩
      refine ⟨?_,rfl⟩
      show AV.tuple [AV.int .u64 _,AV.int .u64 _]=_
      rw [B1 (x:=(q - 1) * 4294967296) (by omega) (by omega),B1 (x:=(q - 1) * 4294967296+q2) (by omega) (by omega),r1,r2]
     ·have hd'B:=C9j hdB
      have dSB:=d1B.step (by omega) (A4D (by omega) d1B.hu (by omega)) G0B
      have hqpB:=dSB.h0
      conv=>whnf
      rw [B1 (x:=q2 - 1) (by omega) (by omega),B1 (x:=r2+y1) (by omega) (by omega)]
      cases hbB:decide (r2+y1≥4294967296)
      ·have hb'B:=C9k hbB
       conv=>whnf
       refine I9 ?_
       exact ⟨(q2 - 1).toNat,by omega,q2 - 1,r2+y1,dSB,by omega,by omega,rfl,rfl,rfl⟩
      ·have hb'B:=C9j hbB
       obtain ⟨e3B,e4B⟩:=eB (q2 - 1) (by omega) (by omega)
       have EQB:q2 - 1=(V * 4294967296+n0) / Y:=by rw [eY];exact dSB.stop (by omega) (by omega)
       conv=>whnf
       have eR:=J3 (U:=V) (n:=n0) (Y:=Y) (by omega) hY1 EQB
       conv=>whnf
       try rw [C9s (show ¬(s:Int)<0 by omega)]
       conv=>whnf
       rw [wM,eR]
       obtain ⟨k1,k2⟩:=h2d
       have r1:(q - 1) * 4294967296+(q2 - 1)=(hi * 18446744073709551616+lo) / y:=by rw [EQA,EQB];exact k1
       have r2:((V * 4294967296+n0) % Y).fdiv (2 ^ s)=(hi * 18446744073709551616+lo) % y:=by
        rw [C9L _ (D0W hp),k2];exact hsc.2
       have lq1:0≤(q - 1)∧(q - 1)<4294967296:=by rw [EQA,eY];exact ⟨g0,g1⟩
       have lq0:0≤(q2 - 1)∧(q2 - 1)<4294967296:=by rw [EQB,eY];exact ⟨j0,j1⟩
       refine ⟨?_,rfl⟩
       show AV.tuple [AV.int .u64 _,AV.int .u64 _]=_
       rw [B1 (x:=(q - 1) * 4294967296) (by omega) (by omega),B1 (x:=(q - 1) * 4294967296+(q2 - 1)) (by omega) (by omega),r1,r2]
    ·have hc'B:=C9j hcB
     have dSB:=d1B.step (by omega) (by omega) G0B
     have hqpB:=dSB.h0
     conv=>whnf
     rw [B1 (x:=q2 - 1) (by omega) (by omega),B1 (x:=r2+y1) (by omega) (by omega)]
     cases hbB:decide (r2+y1≥4294967296)
     ·have hb'B:=C9k hbB
      conv=>whnf
      refine I9 ?_
      exact ⟨(q2 - 1).toNat,by omega,q2 - 1,r2+y1,dSB,by omega,by omega,rfl,rfl,rfl⟩
     ·have hb'B:=C9j hbB
      obtain ⟨e3B,e4B⟩:=eB (q2 - 1) (by omega) (by omega)
      have EQB:q2 - 1=(V * 4294967296+n0) / Y:=by rw [eY];exact dSB.stop (by omega) (by omega)
      conv=>whnf
      have eR:=J3 (U:=V) (n:=n0) (Y:=Y) (by omega) hY1 EQB
      conv=>whnf
      try rw [C9s (show ¬(s:Int)<0 by omega)]
      conv=>whnf
      rw [wM,eR]
      obtain ⟨k1,k2⟩:=h2d
      have r1:(q - 1) * 4294967296+(q2 - 1)=(hi * 18446744073709551616+lo) / y:=by rw [EQA,EQB];exact k1
      have r2:((V * 4294967296+n0) % Y).fdiv (2 ^ s)=(hi * 18446744073709551616+lo) % y:=by
       rw [C9L _ (D0W hp),k2];exact hsc.2
      have lq1:0≤(q - 1)∧(q - 1)<4294967296:=by rw [EQA,eY];exact ⟨g0,g1⟩
      have lq0:0≤(q2 - 1)∧(q2 - 1)<4294967296:=by rw [EQB,eY];exact ⟨j0,j1⟩
      refine ⟨?_,rfl⟩
      show AV.tuple [AV.int .u64 _,AV.int .u64 _]=_
      rw [B1 (x:=(q - 1) * 4294967296) (by omega) (by omega),B1 (x:=(q - 1) * 4294967296+(q2 - 1)) (by omega) (by omega),r1,r2]
def K4 (x:Int):Bool:=decide (0≤x)&&decide (x≤100000000000000)
theorem A2j (x:Int):K4 x=true↔0≤x∧x≤100000000000000:=by simp [K4]
def K5 (q r den round:Int):Int :=
 if round=0 then q
 else if round=1 then (if r≥den - r then q+1 else q)
 else (if r>den - r∨(r=den - r∧q % 2=1) then q+1 else q)
def N6 (x num den round:Int):Int×Int :=
 if (K4 x&&K4 num&&K4 den&&den != 0&&decide (0≤round)&&decide (round<3))=false then (0,2)
 else if x * num / den>100000000000000 then (0,5)
 else if K5 (x * num / den) (x * num % den) den round>100000000000000 then (0,5)
 else (K5 (x * num / den) (x * num % den) den round,0)
abbrev eU (x:Int):AV:=.int .u64 x
theorem C1a (q r d:Int) (st:St):S P 202 [.agg [eU q,eU r,eU d]] st fun v st'=>v=eU q∧st'=st:=by
 refine F5 [1] Tryz.func202 ?_
 exact ⟨rfl,rfl⟩
theorem C7y (q r d:Int) (hq:0≤q) (hq':q≤100000000000000) (hr:0≤r) (hr':r<d) (hd:d≤100000000000000) (st:St):S P 203 [.agg [eU q,eU r,eU d]] st fun v st'=>v=eU (if r≥d - r then q+1 else q)∧st'=st:=by
 refine F5 [1] Tryz.func203 ?_
 rw [B1 (x:=d - r) (by omega) (by omega)]
 refine B7 (fun h=>?_) (fun h=>?_)<;>rw [h]<;>simp only [C9n,C9m] at h
 ·conv=>whnf
  rw [B1 (x:=q+1) (by omega) (by omega)]
  exact ⟨by rw [if_pos h];rfl,rfl⟩
 ·conv=>whnf
  exact ⟨by rw [if_neg h];rfl,rfl⟩
theorem C1c (q r d:Int) (hq:0≤q) (hq':q≤100000000000000) (hr:0≤r) (hr':r<d) (hd:d≤100000000000000) (st:St):S P 204 [.agg [eU q,eU r,eU d]] st fun v st'=>v=eU (if r>d - r∨(r=d - r∧q % 2=1) then q+1 else q)∧st'=st:=by
 refine F5 [1] Tryz.func204 ?_
 have wd:IntKind.u64.wrap (d - r)=d - r:=B1 (by omega) (by omega)
 have w2:q.tmod 2=q % 2:=D1i hq
 repeat' ((conv=>whnf);refine B7 (fun h=>?_) (fun h=>?_)<;>rw [h])
 all_goals (conv=>whnf)
 all_goals (try rw [B1 (x:=q+1) (by omega) (by omega)])
 all_goals (refine ⟨?_,rfl⟩;show AV.int .u64 _=AV.int .u64 _;congr 1)
 all_goals (simp only [w2,wd,C9n,C9m,D0Q,C9W,ne_eq] at *)
 all_goals (split<;>omega)
theorem B0x (x num den round:Int) (st:St):S P 149 [eI x,eI num,eI den,eI round] st fun v st'=>v=.tuple [eI (N6 x num den round).1,eI (N6 x num den round).2]∧st'=st:=by
 refine SyW [10] Tryz.func149 ?_
 repeat' ((conv=>whnf);first | refine B6 (A3v _ st) ?_ | (refine B7 (fun h=>?_) (fun h=>?_)<;>rw [h]))
 all_goals (conv=>whnf)
 all_goals first
  | (refine ⟨?_,rfl⟩
     have e:(K4 x&&K4 num&&K4 den&&den != 0&&decide (0≤round)&&decide (round<3))=false:=by
      rw [←D0z]
      intro hh
      simp only [K4,C9l,C9F,D0q,D1S,ne_eq,C9n,C9m,D0Q,C9W,D1Q] at *
      omega
     rw [show N6 x num den round=(0,2) from if_pos e];rfl)
  | skip
 have e:¬(K4 x&&K4 num&&K4 den&&den != 0&&decide (0≤round)&&decide (round<3))=false:=by
  rw [D1r]
  simp only [K4,C9l,C9F,D0q,D1S,ne_eq,C9n,C9m,D0Q,C9W,D1Q] at *
  omega
 have hb:=D1r _▸e
 simp only [K4,C9l,D1S,ne_eq,C9n] at hb
 obtain ⟨⟨⟨⟨⟨⟨x0,x1⟩,n0,n1⟩,d0,d1⟩,d2⟩,r0⟩,r1⟩:=hb
 have wx:IntKind.u64.wrap x=x:=B1 (by omega) (by omega)
 have wn:IntKind.u64.wrap num=num:=B1 (by omega) (by omega)
 have wd:IntKind.u64.wrap den=den:=B1 (by omega) (by omega)
 rw [wx,wn]
 have hN:0≤x * num:=D0x x0 n0
 have hN':x * num≤100000000000000 * 100000000000000:=D1U x1 n1 n0 (by omega)
 refine B6 (B3T x num ⟨by omega,by omega⟩ ⟨by omega,by omega⟩ st) ?_
 have et:N6 x num den round=if x * num / den>100000000000000 then (0,5) else if K5 (x * num / den) (x * num % den) den round>100000000000000 then (0,5) else (K5 (x * num / den) (x * num % den) den round,0):=if_neg e
 rw [et]
 clear et e
 generalize x * num=N at *
 have hq0:0≤N / den:=D0v hN (by omega)
 have hm0:=D0k N d2
 have hm1:=D0c N (show 0<den by omega)
 have hme:=D0b N den
 conv=>whnf
 rw [wd]
 refine B7 (fun hg=>?_) (fun hg=>?_)<;>rw [hg]<;>simp only [C9n,C9m] at hg
 ·conv=>whnf
  refine ⟨?_,rfl⟩
  have:N / den>100000000000000:=by
   refine Int.lt_of_not_ge fun hle=>?_
   have h1:N<(100000000000000+1) * den:=(D0s (show 0<den by omega)).1 (by omega)
   omega
  rw [if_pos this];rfl
 ·conv=>whnf
  rw [wd]
  refine B6 (B3D _ _ den (by omega) (by omega) (by omega) (by omega) (by omega) st) ?_
  rw [show N / 18446744073709551616 * 18446744073709551616+N % 18446744073709551616=N by omega];conv=>whnf
  refine B7 (fun hq=>?_) (fun hq=>?_)<;>rw [hq]<;>simp only [C9n,C9m] at hq
  ·conv=>whnf
   exact ⟨by rw [if_pos hq];rfl,rfl⟩
  ·rw [if_neg hq]
   generalize N / den=q at *
   generalize N % den=r at *
   have bq:K5 q r den round≤100000000000001∧0≤K5 q r den round:=by unfold K5;repeat' split<;>omega
   suffices hcall:∀ f,f=(if round=0 then 202 else if round=1 then 203 else 204)→S P f [.agg [eU q,eU r,eU den]] st fun v st'=>v=eU (K5 q r den round)∧st'=st by
    have fin:∀ R:Int,R≤100000000000001→0≤R→IntKind.i64.wrap R=R:=fun R h1 h2=>A6 (by omega) (by omega)
    generalize K5 q r den round=R at *
    rcases (by omega:round=0∨round=1∨round=2) with rfl | rfl | rfl
    all_goals (conv=>whnf)
    all_goals (refine ⟨⟨by omega,by omega⟩,?_⟩;conv=>whnf)
    all_goals (rw [wd])
    all_goals (refine B6 (hcall _ rfl) ?_)
    all_goals (conv=>whnf)
    all_goals (refine B7 (fun hR=>?_) (fun hR=>?_)<;>rw [hR]<;>simp only [C9n,C9m] at hR)
    all_goals (conv=>whnf)
    all_goals (refine ⟨?_,rfl⟩)
    all_goals first
     | (rw [if_pos hR];rfl)
     | (rw [if_neg hR,fin R bq.1 bq.2];rfl)
   rintro f rfl
   rcases (by omega:round=0∨round=1∨round=2) with rfl | rfl | rfl
   ·exact (C1a q r den st).mono fun v st' h=>h
   ·exact (C7y q r den hq0 (by omega) hm0 hm1 d1 st).mono fun v st' h=>h
   ·exact (C1c q r den hq0 (by omega) hm0 hm1 d1 st).mono fun v st' h=>h
theorem B0a (x rate round:Int) (st:St):S P 91 [eI x,eI rate,eI round] st fun v st'=>v=.tuple [eI (if 0≤rate∧rate≤10000 then N6 x rate 10000 round else (0,2)).1,eI (if 0≤rate∧rate≤10000 then N6 x rate 10000 round else (0,2)).2]∧st'=st:=by
 refine SyW [] Tryz.func91 ?_
 repeat' ((conv=>whnf);first | refine B6 (B0x _ _ _ _ st) ?_ | (refine B7 (fun h=>?_) (fun h=>?_)<;>rw [h]))
 all_goals (conv=>whnf)
 all_goals (refine ⟨?_,rfl⟩;simp only [C9n,C9m] at *)
 ·rw [if_neg (by omega)];rfl
 ·rw [if_neg (by omega)];rfl
 ·rw [if_pos (by omega)];rfl
end Go.Proofs.YtaapofnkmpiknaaGreat
