/- Part 19 of the proof: contracts of the functions that the law reaches -/
import Derived.Test.YtbajhapmlfbelaaGreatQn18
set_option maxRecDepth 100000
set_option linter.unusedVariables false
set_option linter.unusedSimpArgs false
namespace Go.Proofs.YtbajhapmlfbelaaGreat
open Go Go.Ab
theorem A8F {P:Program} {t:TypeId} {name:String} {f:FuncId} (h:∀ v w,(method (P.types.size+Made.depth) t v name).run P w=.ok (f,v) w) (v:Value) (w:World) (args:Array Value):(callMethod (.iface t v) name args).run P w=(callFunc f (#[v]++args)).run P w:=by
 simp only [callMethod,Sem.run_bind,run_program,Result.andThen_ok,h]
theorem B8j (v : Value) (w : World) : (method (P.types.size + Made.depth) 291 v "Push").run P w = .ok (373, v) w := by kernel_rfl
theorem C1N (v : Value) (w : World) : (method (P.types.size + Made.depth) 291 v "Pop").run P w = .ok (372, v) w := by kernel_rfl
theorem W5 {P:Program} {t el:TypeId} {name:String} {f:FuncId} {n:Nat} {o:Option (List FieldStep×Option (FuncId×Bool))} (hn:P.types.size+Made.depth=n+1)
  (hI:(P.info? t).map (fun I=>(I.methods.find? (·.name==name)).map fun m=>(m.path.toList,m.func))=some o) (ho:o=some ([],some (f,false))) (hu:P.underlying t=some (.pointer el))
  (ad:Addr) (u:Value) (w:World) (hl:(loadVar el ad).run P w=.ok u w):(method (P.types.size+Made.depth) t (.pointer (some ad)) name).run P w=.ok (f,u) w:=by
 subst ho
 rw [hn]
 cases hi:P.info? t with
 | none=>rw [hi] at hI;cases hI
 | some I =>
  rw [hi] at hI
  simp only [Option.map_some,Option.some.injEq] at hI
  cases hm:I.methods.find? (·.name==name) with
  | none=>rw [hm] at hI;cases hI
  | some m =>
   rw [hm] at hI
   simp only [Option.map_some,Option.some.injEq,Prod.mk.injEq] at hI
   obtain ⟨h1,h2⟩:=hI
   have hpe:m.path.isEmpty=true:=by
    rw [Array.isEmpty_iff];exact Array.toList_eq_nil_iff.1 h1
   unfold method
   simp only [Sem.run_bind,typeInfo,run_program,Result.andThen_ok,hi,hm,h1,h2,follow,Sem.run_pure,receiverAt,run_underlying hu,Place.get,hpe,if_true]
   have hs : (Builtin.ssaWrapNilChk_ #[t] t #[Value.pointer (some ad), strVal "", strVal ((name.splitOn ".").getLastD name)]).run P w = .ok (.pointer (some ad)) w := rfl
   rw [hs]
   simp only [Result.andThen_ok,asAddr,Sem.run_pure,hl]
theorem C1L (ad : Addr) (u : Value) (w : World) (hl : (loadVar 287 ad).run P w = .ok u w) : (method (P.types.size + Made.depth) 291 (.pointer (some ad)) "Len").run P w = .ok (369, u) w := W5 (P := P) (t := 291) (el := 287) (name := "Len") (f := 369) (n := P.types.size + Made.depth - 1) (by kernel_rfl) (by kernel_rfl) rfl (by kernel_rfl) ad u w hl
theorem B7Z (ad : Addr) (u : Value) (w : World) (hl : (loadVar 287 ad).run P w = .ok u w) : (method (P.types.size + Made.depth) 291 (.pointer (some ad)) "Less").run P w = .ok (370, u) w := W5 (P := P) (t := 291) (el := 287) (name := "Less") (f := 370) (n := P.types.size + Made.depth - 1) (by kernel_rfl) (by kernel_rfl) rfl (by kernel_rfl) ad u w hl
theorem B8a (ad : Addr) (u : Value) (w : World) (hl : (loadVar 287 ad).run P w = .ok u w) : (method (P.types.size + Made.depth) 291 (.pointer (some ad)) "Swap").run P w = .ok (371, u) w := W5 (P := P) (t := 291) (el := 287) (name := "Swap") (f := 371) (n := P.types.size + Made.depth - 1) (by kernel_rfl) (by kernel_rfl) rfl (by kernel_rfl) ad u w hl
def M:E5:=fun t n =>
 match Nat.beq t 291 with
 | false=>none
 | true=>match n with
  | "Len" => some (369, some 287)
  | "Less" => some (370, some 287)
  | "Swap" => some (371, some 287)
  | "Push" => some (373, none)
  | "Pop" => some (372, none)
  | _=>none
theorem mok:MOk P M:=fun t n f d h v w=>by
 unfold M at h
 split at h
 ·cases h
 rename_i ht
 have ht:=Nat.eq_of_beq_eq_true ht
 subst ht
 split at h<;>first
  | (cases h;done)
  | (cases h;intro args;first | exact A8F B8j v w args | exact A8F C1N v w args)
  | (cases h;rintro ad u args rfl hl;simp only [callMethod,Sem.run_bind,run_program,Result.andThen_ok];(first | rw [C1L ad u w hl] | rw [B7Z ad u w hl] | rw [B8a ad u w hl]);rfl)
theorem B8e:A3l P T M:=B5l B7H mok
end Go.Proofs.YtbajhapmlfbelaaGreat
namespace Go.Ab
open Go
theorem ldV {T:C9} {t:TypeId} {e b i o ty n:Nat} {st:St} {k:KK} {r:B4} {f:Nat→AV} {v:AV} (h:st b=some ⟨ty,e,n,f⟩) (hr:T t=some r) (hi:i<n) (hv:f i=v) (hk:A5W r (cellsOf v) o (fun y=>k y st)):B6e T t e b i o st k :=
 ldO h hr rfl hi (by rw [show (M6.mk ty e n f).f i=v from hv];exact hk)
theorem stV {T:C9} {t:TypeId} {e b i o ty n:Nat} {u v:AV} {st:St} {k:KK} {r:B4} {f:Nat→AV} (h:st b=some ⟨ty,e,n,f⟩) (hr:T t=some r) (hi:i<n) (hv:f i=v)
  (hc:(Nat.blt 0 r.size&&Nat.beq (cellsOf u).length r.size&&(cellsOf u).all AV.one&&Nat.ble (o+r.size) e)=true)
  (hk:k (.tuple []) (upd st b ⟨ty,e,n,L4 f i (H7 v o (cellsOf u))⟩)):B4z T t e b i o u st k:=by
 refine stO h hr rfl hi hc ?_
 rw [show (M6.mk ty e n f).f i=v from hv]
 exact hk
theorem B3 (f:Nat→AV) (i:Nat) (v:AV):L4 f i v i=v:=by simp [L4]
theorem J9 {f:Nat→AV} {i j:Nat} {v:AV} (h:j≠i):L4 f i v j=f j:=by simp [L4,h]
def H6 (ty e:Nat) (f:Nat→AV) (st:St) (n:Nat) (sv:AV) (st':St):Prop :=
 (n=0∧sv=.emp∧st'=st)∨(0<n∧∃ b g,st b=none∧sv=.own e b 0 n∧st'=upd st b ⟨ty,e,n,g⟩∧∀ k,k<n→g k=f k)
theorem H6.start (ty e:Nat) (f:Nat→AV) (st:St):H6 ty e f st 0 .emp st:=.inl ⟨rfl,rfl,rfl⟩
theorem H6.congr {ty e:Nat} {f f':Nat→AV} {st:St} {n:Nat} {sv:AV} {st':St} (h:H6 ty e f st n sv st') (hf:∀ k,k<n→f k=f' k):H6 ty e f' st n sv st':=by
 rcases h with h | ⟨h0,b,g,h1,h2,h3,h4⟩
 ·exact .inl h
 ·exact .inr ⟨h0,b,g,h1,h2,h3,fun k hk=>(h4 k hk).trans (hf k hk)⟩
theorem H6.app {T:C9} {t:TypeId} {x sv:AV} {st st':St} {k:KK} {r q:B4} {el n:Nat} {f g:Nat→AV} (hr:T t=some r) (hd:r.desc=.slice el) (hq:T el=some q)
  (hz:(Nat.blt 0 q.size&&Nat.blt 0 q.bytes&&Nat.beq q.zero.cells.size q.size)=true) (hs:T2 q.size st' x=some (1,g)) (hg:g 0=f n) (hb:(n+1) * q.bytes≤140737488355328)
  (hc:H6 el q.size f st n sv st') (hk:∀ sv' st'',H6 el q.size f st (n+1) sv' st''→k sv' st''):A3N T t sv x st' k:=by
 rcases hc with ⟨rfl,rfl,rfl⟩ | ⟨h0,b,y,h1,rfl,rfl,h4⟩
 ·refine apE hr hd hq hz hs (by omega) (fun h=>by omega) (fun _ b hb=>hk _ _ (.inr ⟨by omega,b,g,hb,rfl,rfl,fun k hk=>?_⟩))
  have:k=0:=by omega
  subst this;exact hg
 ·refine apO hr hd hq hz hs (A0 ..) rfl rfl rfl hb (fun h=>by omega) (fun _ b' hb'=>?_)
  rw [A1F h1]
  have hb'':st b'=none:=by
   rcases hb' with rfl | h
   ·exact h1
   ·by_cases e:b'=b
    ·subst e;exact h1
    ·rw [A3 e] at h;exact h
  refine hk _ _ (.inr ⟨by omega,b',_,hb'',rfl,rfl,fun k hk=>?_⟩)
  by_cases hkn:k<n
  ·simp only [hkn,if_true];exact h4 k hkn
  ·have:k=n:=by omega
   subst this
   simp only [hkn,if_false,Nat.sub_self];exact hg
theorem H6.apps {T:C9} {t:TypeId} {x sv:AV} {st st':St} {k:KK} {r q:B4} {el n m:Nat} {f g:Nat→AV} (hr:T t=some r) (hd:r.desc=.slice el) (hq:T el=some q)
  (hz:(Nat.blt 0 q.size&&Nat.blt 0 q.bytes&&Nat.beq q.zero.cells.size q.size)=true) (hs:T2 q.size st' x=some (m,g)) (hg:∀ i,i<m→g i=f (n+i)) (hb:(n+m) * q.bytes≤140737488355328)
  (hc:H6 el q.size f st n sv st') (hk:∀ sv' st'',H6 el q.size f st (n+m) sv' st''→k sv' st''):A3N T t sv x st' k:=by
 rcases hc with ⟨rfl,rfl,rfl⟩ | ⟨h0,b,y,h1,rfl,rfl,h4⟩
 ·refine apE hr hd hq hz hs (by simpa using hb) (fun h=>hk _ _ (.inl ⟨by omega,rfl,rfl⟩)) (fun hm b hb=>?_)
  have e:0+m=m:=Nat.zero_add m
  refine hk _ _ ?_
  rw [e]
  exact .inr ⟨hm,b,g,hb,rfl,rfl,fun k hk=>by have:=hg k hk;rwa [Nat.zero_add] at this⟩
 ·refine apO hr hd hq hz hs (A0 ..) rfl rfl rfl hb (fun h=>hk _ _ ?_) (fun _ b' hb'=>?_)
  ·subst h;exact .inr ⟨h0,b,y,h1,rfl,rfl,h4⟩
  rw [A1F h1]
  have hb'':st b'=none:=by
   rcases hb' with rfl | h
   ·exact h1
   ·by_cases e:b'=b
    ·subst e;exact h1
    ·rw [A3 e] at h;exact h
  refine hk _ _ (.inr ⟨by omega,b',_,hb'',rfl,rfl,fun k hk=>?_⟩)
  by_cases hkn:k<n
  ·simp only [hkn,if_true];exact h4 k hkn
  ·simp only [hkn,if_false]
   have:=hg (k - n) (by omega)
   rw [this];congr 1;omega
theorem H6.shift {ty e:Nat} {f:Nat→AV} {st:St} {n:Nat} {sv:AV} {st':St} (h:H6 ty e f st n sv st'):A4 [sv] st' [.arr e n f] st:=by
 rcases h with ⟨rfl,rfl,rfl⟩ | ⟨h0,b,g,h1,rfl,rfl,h4⟩
 ·exact G5 e f
 ·have:=M1 (st:=upd st b ⟨ty,e,n,g⟩) (e:=e) (b:=b) (n:=n) (f:=f) (A0 ..) rfl (Nat.le_refl _) h4
  rw [A1F h1] at this;exact this
theorem H6.sup {ty e:Nat} {f:Nat→AV} {st:St} {n:Nat} {sv:AV} {st':St} (h:H6 ty e f st n sv st'):E2 st st':=by
 rcases h with ⟨rfl,rfl,rfl⟩ | ⟨h0,b,g,h1,rfl,rfl,h4⟩
 ·exact E2.refl _
 ·exact (E2.refl st).upd h1
theorem B2N {P:Program} {F:FuncId} {args:List AV} {st:St} {ty e n:Nat} {f:Nat→AV} (h:S P F args st fun v st'=>H6 ty e f st n v st'):S P F args st fun v st'=>v=.arr e n f∧st'=st :=
 h.post fun v st' hc=>⟨.arr e n f,st,⟨rfl,rfl⟩,hc.shift⟩
theorem E7 {α β : Type} [Inhabited α] [Inhabited β] (g : α→β) (l:List α) {i:Nat} (h:i<l.length):(l.map g).getD i default=g (l.getD i default):=by
 simp [List.getD_eq_getElem?_getD,h]
theorem A9t {n:Nat} {p:Nat→Bool} (h:∀ k,k<n→p k=true):(List.range n).all p=true:=List.all_eq_true.2 fun k hk=>h k (List.mem_range.1 hk)
end Go.Ab
namespace Go.Proofs.YtbajhapmlfbelaaGreat
open Go Go.Ab
theorem G9 {e e':Nat} {j:Int} {n:Nat} {k q:Prop} (h:q) (h1:e=e':=by rfl) (h2:0≤j∧j<(n:Int):=by omega) (hk:k=q:=by conv=>lhs;whnf):e=e'∧(0≤j∧j<n)∧k:=⟨h1,h2,hk▸h⟩
theorem H4 {a b:Nat} {k q:Prop} (h:q) (h1:a=b:=by rfl) (hk:k=q:=by conv=>lhs;whnf):a=b∧k:=⟨h1,hk▸h⟩
theorem J7 {T:C9} {t:TypeId} {e b i o ty n:Nat} {st:St} {k:KK} {r:B4} {f:Nat→AV} {v:AV} {q:Prop} (h:st b=some ⟨ty,e,n,f⟩) (hv:f i=v) (h':q) (hr:T t=some r:=by rfl) (hi:i<n:=by omega)
  (hk:A5W r (cellsOf v) o (fun y=>k y st)=q:=by conv=>lhs;whnf):B6e T t e b i o st k:=ldV h hr hi hv (hk▸h')
theorem stU {T:C9} {t:TypeId} {e b i o ty n:Nat} {u v:AV} {st:St} {k:KK} {r:B4} {f:Nat→AV} (h:st b=some ⟨ty,e,n,f⟩) (hv:f i=v)
  (hk:k (.tuple []) (upd st b ⟨ty,e,n,L4 f i (H7 v o (cellsOf u))⟩)) (hr:T t=some r:=by rfl) (hi:i<n:=by omega)
  (hc:(Nat.blt 0 r.size&&Nat.beq (cellsOf u).length r.size&&(cellsOf u).all AV.one&&Nat.ble (o+r.size) e)=true:=by rfl):B4z T t e b i o u st k:=stV h hr hi hv hc hk
theorem stW {T:C9} {t:TypeId} {e b i o ty n:Nat} {u v:AV} {st:St} {k:KK} {r:B4} {f:Nat→AV} {q:Prop} (h:st b=some ⟨ty,e,n,f⟩) (hv:f i=v) (h':q) (hr:T t=some r:=by rfl) (hi:i<n:=by omega)
  (hc:(Nat.blt 0 r.size&&Nat.beq (cellsOf u).length r.size&&(cellsOf u).all AV.one&&Nat.ble (o+r.size) e)=true:=by rfl)
  (hk:k (.tuple []) (upd st b ⟨ty,e,n,L4 f i (H7 v o (cellsOf u))⟩)=q:=by conv=>lhs;whnf):B4z T t e b i o u st k:=stV h hr hi hv hc (hk▸h')
theorem H9 {P:Program} {f:FuncId} {args:List AV} {st:St} {v:AV} {k:KK} {q:Prop} (h:S P f args st fun v' st'=>v'=v∧st'=st) (h':q) (hk:k v st=q:=by conv=>lhs;whnf):Q7 P f args st k:=C1 h (hk▸h')
theorem cqW {P:Program} {f:FuncId} {args:List AV} {st:St} {v:AV} {k:AV→Prop} {q:Prop} (h:S P f args st fun v' st'=>v'=v∧st'=st) (h':q) (hk:k v=q:=by conv=>lhs;whnf) :
  ∃ v,Q7 P f args st (fun v' st'=>v'=v∧st'=st)∧k v:=⟨v,call h fun _ _ h=>h,hk▸h'⟩
theorem SyW (frz:List Nat) {f:FuncId} {fn:Func} {c:Code} {args:List AV} {st:St} {post:KK} {n:Nat} {rs:Array ResultVar} (hf:P.funcs[f]?=some fn)
  (h : A1o args n fun A => ZC P T M frz (yDr P T M frz) [] c A st (B6d T rs.toList post)) (hname : (fn.name == "runtime.NumGoroutine") = false := by rfl) (hb : fn.body = some c := by rfl) (hn : fn.ntmps = n := by rfl) (hr : fn.results = rs := by rfl) :
  S P f args st post:=B2P frz B8e mixed hf hname hb hn hr h
theorem E3 (frz:List Nat) {f:FuncId} {fn:Func} {c:Code} {args:List AV} {st:St} {post:KK} {n:Nat} {rs:Array ResultVar} {q:Prop} (hf:P.funcs[f]?=some fn) (h:q)
  (hname : (fn.name == "runtime.NumGoroutine") = false := by rfl) (hb : fn.body = some c := by rfl) (hn : fn.ntmps = n := by rfl) (hr : fn.results = rs := by rfl)
  (hk:(A1o args n fun A=>ZC P T M frz (yDr P T M frz) [] c A st (B6d T rs.toList post))=q:=by conv=>lhs;whnf):S P f args st post:=B2P frz B8e mixed hf hname hb hn hr (hk▸h)
end Go.Proofs.YtbajhapmlfbelaaGreat
namespace Go.Proofs.YtbajhapmlfbelaaGreat
open Go Go.Ab
attribute [local irreducible] upd del
def chr (s:D8) (i:Nat):Int:=if h:i<s.size then ((s[i]'h).toNat:Int) else 0
theorem B6P {s:D8} {i:Nat} {j:Int} (hj:j.toNat=i) (h:j.toNat<s.size):((s[j.toNat]'h).toNat:Int)=chr s i:=by
 subst hj;unfold chr;rw [dif_pos h]
theorem B6X {s:D8} {j:Int} {k:AV→Prop} {i:Nat} (hj:j=i) (hi:i<s.size) (hk:k (.int .u8 (chr s i))):B7M s j k:=by
 refine ⟨⟨by omega,by omega⟩,?_⟩
 rw [B6P (i:=i) (by omega) (by omega)]
 exact hk
def okc (c:Int):Bool:=c==45||(decide (48≤c)&&decide (c≤57))||(decide (97≤c)&&decide (c≤122))
theorem B0Z (c:Int):okc c=true↔c=45∨(48≤c∧c≤57)∨(97≤c∧c≤122):=by
 simp [okc,or_assoc]
def Q8 (s:D8):Bool:=decide (1≤s.size)&&decide (s.size≤12)&&(List.range s.size).all fun i=>okc (chr s i)
theorem A3r {n:Nat} {p:Nat→Bool} (h:∀ k,k<n→p k=true):(List.range n).all p=true:=List.all_eq_true.2 fun k hk=>h k (List.mem_range.1 hk)
theorem A1L {n k:Nat} {p:Nat→Bool} (hk:k<n) (h:p k=false):(List.range n).all p=false:=by
 rw [Bool.eq_false_iff];intro e;rw [List.all_eq_true.1 e k (List.mem_range.2 hk)] at h;cases h
theorem A2p (s:D8) (st:St):S P 182 [eS s] st fun v st'=>v=.bool (Q8 s)∧st'=st:=by
 refine E3 [] Tryz.func182 ?_
 cases h1:decide ((s.size:Int)<1)
 ·conv=>whnf
  cases h2:decide ((s.size:Int)>12)
  ·have g1:=of_decide_eq_false h1
   have g2:=of_decide_eq_false h2
   have hn:Q8 s=(List.range s.size).all fun i=>okc (chr s i):=by
    unfold Q8
    rw [decide_eq_true (by omega),decide_eq_true (by omega)];rfl
   conv=>whnf
   refine ⟨[0,14,15],fun m vs st'=>∃ i:Nat,i≤s.size∧(∀ k,k<i→okc (chr s k)=true)∧m=s.size - i∧vs=[eS s,eI s.size,eI i]∧st'=st,?_,?_⟩
   ·conv=>whnf
    exact ⟨_,0,Nat.zero_le _,fun k hk=>absurd hk (by omega),rfl,rfl,rfl⟩
   ·rintro m vs st' ⟨i,hi,hok,rfl,rfl,rfl⟩
    conv=>whnf
    cases h3:decide ((i:Int)<(s.size:Int))
    ·have:=of_decide_eq_false h3
     conv=>whnf
     refine ⟨?_,rfl⟩
     rw [hn,A3r fun k hk=>hok k (by omega)];rfl
    ·have hlt:i<s.size:=by have:=of_decide_eq_true h3;omega
     conv=>whnf
     refine B6X (i:=i) rfl hlt ?_
     have yes:okc (chr s i)=true→∀ k,k<i+1→okc (chr s k)=true:=fun h k hk=>by
      rcases Nat.lt_succ_iff_lt_or_eq.1 hk with h' | h'
      ·exact hok k h'
      ·rw [h'];exact h
     have no:okc (chr s i)=false→Q8 s=false:=fun h=>by rw [hn];exact A1L hlt h
     generalize chr s i=c at *
     repeat' ((conv=>whnf);refine B5 (fun h=>?_) (fun h=>?_)<;>rw [h])
     all_goals (conv=>whnf)
     all_goals first
      | (refine ⟨?_,rfl⟩
         rw [no (by rw [←Bool.not_eq_true,B0Z];simp only [bne_iff_ne,ne_eq,decide_eq_true_eq,decide_eq_false_iff_not,bne_eq_false_iff_eq] at *;omega)]
         rfl)
      | (refine ⟨rfl,?_⟩
         conv=>whnf
         exact ⟨s.size - (i+1),by omega,i+1,by omega,yes ((B0Z c).2 (by simp only [bne_iff_ne,ne_eq,decide_eq_true_eq,decide_eq_false_iff_not,bne_eq_false_iff_eq] at *;omega)),rfl,by rw [B7 (by omega)],rfl⟩)
  ·have g2:=of_decide_eq_true h2
   conv=>whnf
   refine ⟨?_,rfl⟩
   unfold Q8
   rw [decide_eq_false (show ¬ s.size≤12 by omega),Bool.and_false];rfl
 ·have g1:=of_decide_eq_true h1
  conv=>whnf
  refine ⟨?_,rfl⟩
  unfold Q8
  rw [decide_eq_false (show ¬ 1≤s.size by omega)];rfl
theorem A2Y (x:Int) (st:St):S P 131 [eI x] st fun v st'=>v=.bool (decide (0≤x)&&decide (x≤100000000000000))∧st'=st:=by
 refine E3 [] Tryz.func131 ?_
 cases h:decide (x≥0)
 ·conv=>whnf
  have h':decide (0≤x)=false:=h
  exact ⟨by simp [A5s,h'],rfl⟩
 ·conv=>whnf
  have h':decide (0≤x)=true:=h
  exact ⟨by simp [A5s,h'],rfl⟩
def W9 (a b:D8):Bool:=Op.bytesLess a.toList b.toList
def A2u (l:List D8) (k:Nat):Bool:=k==0||W9 (l.getD (k - 1) default) (l.getD k default)
def A0O (l:List D8):Bool:=(List.range l.length).all (A2u l)
theorem A5D (l:List D8) (hl:l.length≤9223372036854775807) (st:St):S P 179 [E6 l] st fun v st'=>v=.bool (A0O l)∧st'=st:=by
 refine E3 [] Tryz.func179 ?_
 refine ⟨[0,5,6],fun m vs st'=>∃ i:Nat,i≤l.length∧(∀ k,k<i→A2u l k=true)∧m=l.length - i∧vs=[E6 l,eI l.length,eI i]∧st'=st,?_,?_⟩
 ·conv=>whnf
  exact ⟨_,0,Nat.zero_le _,fun k hk=>absurd hk (by omega),rfl,rfl,rfl⟩
 ·rintro m vs st' ⟨i,hi,hok,rfl,rfl,rfl⟩
  conv=>whnf
  cases h:decide ((i:Int)<(l.length:Int))
  ·have:=of_decide_eq_false h
   conv=>whnf
   refine ⟨?_,rfl⟩
   unfold A0O
   rw [A3r fun k hk=>hok k (by omega)];rfl
  ·have hi':i<l.length:=by have:=of_decide_eq_true h;omega
   have yes:A2u l i=true→∀ k,k<i+1→A2u l k=true:=fun h k hk=>by
    rcases Nat.lt_succ_iff_lt_or_eq.1 hk with h' | h'
    ·exact hok k h'
    ·rw [h'];exact h
   conv=>whnf
   refine ⟨[],[],[0,1,2,3,4,5,6,7,8,9,10,11,12,13],by kernel_rfl,?_⟩;conv=>whnf
   cases h2:decide ((i:Int)>0)
   ·have h0:i=0:=by have:=of_decide_eq_false h2;omega
    conv=>whnf
    refine H4 ?_
    exact ⟨l.length - (i+1),by omega,i+1,by omega,yes (by unfold A2u;rw [h0];rfl),rfl,by rw [B7 (by omega)],rfl⟩
   ·have hp:0<i:=by have:=of_decide_eq_true h2;omega
    have hw:IntKind.i64.wrap ((i:Int) - 1)=((i - 1:Nat):Int):=by rw [B0 (by omega) (by omega)];omega
    have e:A2u l i=Op.bytesLess (l.getD ((i - 1:Nat):Int).toNat default).toList (l.getD (i:Int).toNat default).toList:=by
     unfold A2u W9
     rw [Int.toNat_natCast,Int.toNat_natCast,beq_false_of_ne (by omega),Bool.false_or]
    conv=>whnf
    refine ⟨rfl,⟨by omega,by omega⟩,?_⟩
    rw [hw];conv=>whnf
    refine G9 ?_
    cases h3:Op.bytesLess (l.getD ((i - 1:Nat):Int).toNat default).toList (l.getD (i:Int).toNat default).toList
    ·conv=>whnf
     refine ⟨?_,rfl⟩
     unfold A0O
     rw [A1L hi' (by rw [e,h3])];rfl
    ·conv=>whnf
     refine H4 ?_
     exact ⟨l.length - (i+1),by omega,i+1,by omega,yes (by rw [e,h3]),rfl,by rw [B7 (by omega)],rfl⟩
def idx {α : Type} (p : α→Bool):List α→Int
 | []=>-1
 | x::l=>if p x then 0 else if idx p l<0 then -1 else idx p l+1
theorem J0 {α : Type} [Inhabited α] {p : α→Bool}:∀ {l:List α},(∀ k,k<l.length→p (l.getD k default)=false)→idx p l = -1
 | [],_=>rfl
 | x::l,h=>by
  have h0:=h 0 (by simp)
  have ih:=J0 (l:=l) (fun k hk=>h (k+1) (by simpa using hk))
  simp only [List.getD_cons_zero] at h0
  simp [idx,h0,ih]
theorem R6 {α : Type} [Inhabited α] {p : α→Bool}:∀ {l:List α} {i:Nat},i<l.length→(∀ k,k<i→p (l.getD k default)=false)→p (l.getD i default)=true→idx p l=i
 | [],i,hi,_,_=>by simp at hi
 | x::l,0,_,_,h=>by
  simp only [List.getD_cons_zero] at h
  simp [idx,h]
 | x::l,i+1,hi,hk,h=>by
  have h0:=hk 0 (by omega)
  simp only [List.getD_cons_zero] at h0
  have ih:=R6 (l:=l) (i:=i) (by simpa using hi) (fun k hk'=>hk (k+1) (by omega)) (by simpa using h)
  simp only [idx,h0,ih]
  rw [if_neg (by simp),if_neg (by omega)];omega
theorem A3C {α : Type} (p : α→Bool):∀ l:List α,-1≤idx p l∧idx p l<l.length
 | []=>by simp [idx]
 | x::l=>by
  have:=A3C p l
  simp only [idx,List.length_cons]
  split
  ·omega
  ·split<;>omega
theorem A8z {α : Type} (p : α→Bool):∀ l:List α,0≤idx p l↔l.any p=true
 | []=>by simp [idx]
 | x::l=>by
  have ih:=A8z p l
  have hb:=A3C p l
  have e:idx p (x::l)=if p x then 0 else if idx p l<0 then -1 else idx p l+1:=rfl
  rw [e,List.any_cons]
  by_cases hx:p x=true
  ·rw [if_pos hx,hx];simp
  ·rw [if_neg hx,Bool.eq_false_iff.2 hx,Bool.false_or,←ih]
   split<;>omega
theorem S3 {α : Type} (p : α→Bool) (l:List α):decide (idx p l≥0)=l.any p:=by
 rw [Bool.eq_iff_iff,decide_eq_true_eq];exact A8z p l
theorem A7x (l:List D8) (hl:l.length≤9223372036854775807) (g:FuncId) (cs:List AV) (p:D8→Bool) (st:St)
  (hg:∀ x,x∈l→S P g (eS x::cs) st fun v st'=>v=.bool (p x)∧st'=st) :
  S P 352 [E6 l,.fn (.func g) [] cs] st fun v st'=>v=eI (idx p l)∧st'=st:=by
 refine E3 [] Tryz.func352 ?_
 refine ⟨[0,1,7,8],fun m vs st'=>∃ i:Nat,i≤l.length∧(∀ k,k<i→p (l.getD k default)=false)∧m=l.length - i∧vs=[E6 l,.fn (.func g) [] cs,eI l.length,eI i]∧st'=st,?_,?_⟩
 ·conv=>whnf
  exact ⟨_,0,Nat.zero_le _,fun k hk=>absurd hk (by omega),rfl,rfl,rfl⟩
 ·rintro m vs st' ⟨i,hi,hok,rfl,rfl,rfl⟩
  conv=>whnf
  cases h:decide ((i:Int)<(l.length:Int))
  ·have:=of_decide_eq_false h
   conv=>whnf
   refine ⟨?_,rfl⟩
   rw [J0 fun k hk=>hok k (by omega)];rfl
  ·have hi':i<l.length:=by have:=of_decide_eq_true h;omega
   conv=>whnf
   refine G9 ?_
   refine C1 (hg (l.getD (i:Int).toNat default) (by simp [hi'])) ?_
   rw [Int.toNat_natCast]
   cases hp:p (l.getD i default)
   ·conv=>whnf
    refine H4 ?_
    refine ⟨l.length - (i+1),by omega,i+1,by omega,fun k hk=>?_,rfl,by rw [B7 (by omega)],rfl⟩
    rcases Nat.lt_succ_iff_lt_or_eq.1 hk with h' | h'
    ·exact hok k h'
    ·rw [h'];exact hp
   ·conv=>whnf
    refine ⟨?_,rfl⟩
    rw [R6 hi' hok hp];rfl
theorem A9N (l:List D8) (hl:l.length≤9223372036854775807) (g:FuncId) (cs:List AV) (p:D8→Bool) (st:St)
  (hg:∀ x,x∈l→S P g (eS x::cs) st fun v st'=>v=.bool (p x)∧st'=st) :
  S P 350 [E6 l,.fn (.func g) [] cs] st fun v st'=>v=.bool (l.any p)∧st'=st:=by
 refine E3 [] Tryz.func350 ?_
 refine H9 (A7x l hl g cs p st hg) ?_
 refine ⟨?_,rfl⟩
 rw [←S3];rfl
theorem A9f (l:List D8) (hl:l.length≤9223372036854775807) (g:FuncId) (cs:List AV) (p:D8→Bool) (st:St)
  (hg:∀ x,x∈l→S P g (eS x::cs) st fun v st'=>v=.bool (p x)∧st'=st) :
  S P 260 [E6 l,.fn (.func g) [] cs] st fun v st'=>v=eI (idx p l)∧st'=st:=by
 refine E3 [] Tryz.func260 ?_
 refine ⟨[0,1,7,8],fun m vs st'=>∃ i:Nat,i≤l.length∧(∀ k,k<i→p (l.getD k default)=false)∧m=l.length - i∧vs=[E6 l,.fn (.func g) [] cs,eI l.length,eI i]∧st'=st,?_,?_⟩
 ·conv=>whnf
  exact ⟨_,0,Nat.zero_le _,fun k hk=>absurd hk (by omega),rfl,rfl,rfl⟩
 ·rintro m vs st' ⟨i,hi,hok,rfl,rfl,rfl⟩
  conv=>whnf
  cases h:decide ((i:Int)<(l.length:Int))
  ·have:=of_decide_eq_false h
   conv=>whnf
   refine ⟨?_,rfl⟩
   rw [J0 fun k hk=>hok k (by omega)];rfl
  ·have hi':i<l.length:=by have:=of_decide_eq_true h;omega
   conv=>whnf
   refine G9 ?_
   refine C1 (hg (l.getD (i:Int).toNat default) (by simp [hi'])) ?_
   rw [Int.toNat_natCast]
   cases hp:p (l.getD i default)
   ·conv=>whnf
    refine H4 ?_
    refine ⟨l.length - (i+1),by omega,i+1,by omega,fun k hk=>?_,rfl,by rw [B7 (by omega)],rfl⟩
    rcases Nat.lt_succ_iff_lt_or_eq.1 hk with h' | h'
    ·exact hok k h'
    ·rw [h'];exact hp
   ·conv=>whnf
    refine ⟨?_,rfl⟩
    rw [R6 hi' hok hp];rfl
theorem B2r (l:List D8) (hl:l.length≤9223372036854775807) (g:FuncId) (cs:List AV) (p:D8→Bool) (st:St)
  (hg:∀ x,x∈l→S P g (eS x::cs) st fun v st'=>v=.bool (p x)∧st'=st) :
  S P 180 [E6 l,.fn (.func g) [] cs] st fun v st'=>v=.bool (l.any p)∧st'=st:=by
 refine E3 [] Tryz.func180 ?_
 refine H9 (A9f l hl g cs p st hg) ?_
 refine ⟨?_,rfl⟩
 rw [←S3];rfl
theorem A6h (l:List A8) (hl:l.length≤9223372036854775807) (g:FuncId) (cs:List AV) (p:A8→Bool) (st:St)
  (hg:∀ x,x∈l→S P g (B6 x::cs) st fun v st'=>v=.bool (p x)∧st'=st) :
  S P 316 [A5 15 B6 l,.fn (.func g) [] cs] st fun v st'=>v=eI (idx p l)∧st'=st:=by
 refine E3 [] Tryz.func316 ?_
 refine ⟨[0,1,7,8],fun m vs st'=>∃ i:Nat,i≤l.length∧(∀ k,k<i→p (l.getD k default)=false)∧m=l.length - i∧vs=[A5 15 B6 l,.fn (.func g) [] cs,eI l.length,eI i]∧st'=st,?_,?_⟩
 ·conv=>whnf
  exact ⟨_,0,Nat.zero_le _,fun k hk=>absurd hk (by omega),rfl,rfl,rfl⟩
 ·rintro m vs st' ⟨i,hi,hok,rfl,rfl,rfl⟩
  conv=>whnf
  cases h:decide ((i:Int)<(l.length:Int))
  ·have:=of_decide_eq_false h
   conv=>whnf
   refine ⟨?_,rfl⟩
   rw [J0 fun k hk=>hok k (by omega)];rfl
  ·have hi':i<l.length:=by have:=of_decide_eq_true h;omega
   conv=>whnf
   refine G9 ?_
   refine C1 (hg (l.getD (i:Int).toNat default) (by simp [hi'])) ?_
   rw [Int.toNat_natCast]
   cases hp:p (l.getD i default)
   ·conv=>whnf
    refine H4 ?_
    refine ⟨l.length - (i+1),by omega,i+1,by omega,fun k hk=>?_,rfl,by rw [B7 (by omega)],rfl⟩
    rcases Nat.lt_succ_iff_lt_or_eq.1 hk with h' | h'
    ·exact hok k h'
    ·rw [h'];exact hp
   ·conv=>whnf
    refine ⟨?_,rfl⟩
    rw [R6 hi' hok hp];rfl
theorem A8R (l:List A8) (hl:l.length≤9223372036854775807) (g:FuncId) (cs:List AV) (p:A8→Bool) (st:St)
  (hg:∀ x,x∈l→S P g (B6 x::cs) st fun v st'=>v=.bool (p x)∧st'=st) :
  S P 255 [A5 15 B6 l,.fn (.func g) [] cs] st fun v st'=>v=.bool (l.any p)∧st'=st:=by
 refine E3 [] Tryz.func255 ?_
 refine H9 (A6h l hl g cs p st hg) ?_
 refine ⟨?_,rfl⟩
 rw [←S3];rfl
theorem A7B (l:List A2D) (hl:l.length≤9223372036854775807) (g:FuncId) (cs:List AV) (p:A2D→Bool) (st:St)
  (hg:∀ x,x∈l→S P g (A0K x::cs) st fun v st'=>v=.bool (p x)∧st'=st) :
  S P 347 [A5 3 A0K l,.fn (.func g) [] cs] st fun v st'=>v=eI (idx p l)∧st'=st:=by
 refine E3 [] Tryz.func347 ?_
 refine ⟨[0,1,7,8],fun m vs st'=>∃ i:Nat,i≤l.length∧(∀ k,k<i→p (l.getD k default)=false)∧m=l.length - i∧vs=[A5 3 A0K l,.fn (.func g) [] cs,eI l.length,eI i]∧st'=st,?_,?_⟩
 ·conv=>whnf
  exact ⟨_,0,Nat.zero_le _,fun k hk=>absurd hk (by omega),rfl,rfl,rfl⟩
 ·rintro m vs st' ⟨i,hi,hok,rfl,rfl,rfl⟩
  conv=>whnf
  cases h:decide ((i:Int)<(l.length:Int))
  ·have:=of_decide_eq_false h
   conv=>whnf
   refine ⟨?_,rfl⟩
   rw [J0 fun k hk=>hok k (by omega)];rfl
  ·have hi':i<l.length:=by have:=of_decide_eq_true h;omega
   conv=>whnf
   refine G9 ?_
   refine C1 (hg (l.getD (i:Int).toNat default) (by simp [hi'])) ?_
   rw [Int.toNat_natCast]
   cases hp:p (l.getD i default)
   ·conv=>whnf
    refine H4 ?_
    refine ⟨l.length - (i+1),by omega,i+1,by omega,fun k hk=>?_,rfl,by rw [B7 (by omega)],rfl⟩
    rcases Nat.lt_succ_iff_lt_or_eq.1 hk with h' | h'
    ·exact hok k h'
    ·rw [h'];exact hp
   ·conv=>whnf
    refine ⟨?_,rfl⟩
    rw [R6 hi' hok hp];rfl
theorem A9R (l:List A2D) (hl:l.length≤9223372036854775807) (g:FuncId) (cs:List AV) (p:A2D→Bool) (st:St)
  (hg:∀ x,x∈l→S P g (A0K x::cs) st fun v st'=>v=.bool (p x)∧st'=st) :
  S P 337 [A5 3 A0K l,.fn (.func g) [] cs] st fun v st'=>v=.bool (l.any p)∧st'=st:=by
 refine E3 [] Tryz.func337 ?_
 refine H9 (A7B l hl g cs p st hg) ?_
 refine ⟨?_,rfl⟩
 rw [←S3];rfl
theorem A7t (l:List Ab.Item) (hl:l.length≤9223372036854775807) (g:FuncId) (cs:List AV) (p:Ab.Item→Bool) (st:St)
  (hg:∀ x,x∈l→S P g (C6 x::cs) st fun v st'=>v=.bool (p x)∧st'=st) :
  S P 202 [A5 4 C6 l,.fn (.func g) [] cs] st fun v st'=>v=eI (idx p l)∧st'=st:=by
 refine E3 [] Tryz.func202 ?_
 refine ⟨[0,1,7,8],fun m vs st'=>∃ i:Nat,i≤l.length∧(∀ k,k<i→p (l.getD k default)=false)∧m=l.length - i∧vs=[A5 4 C6 l,.fn (.func g) [] cs,eI l.length,eI i]∧st'=st,?_,?_⟩
 ·conv=>whnf
  exact ⟨_,0,Nat.zero_le _,fun k hk=>absurd hk (by omega),rfl,rfl,rfl⟩
 ·rintro m vs st' ⟨i,hi,hok,rfl,rfl,rfl⟩
  conv=>whnf
  cases h:decide ((i:Int)<(l.length:Int))
  ·have:=of_decide_eq_false h
   conv=>whnf
   refine ⟨?_,rfl⟩
   rw [J0 fun k hk=>hok k (by omega)];rfl
  ·have hi':i<l.length:=by have:=of_decide_eq_true h;omega
   conv=>whnf
   refine G9 ?_
   refine C1 (hg (l.getD (i:Int).toNat default) (by simp [hi'])) ?_
   rw [Int.toNat_natCast]
   cases hp:p (l.getD i default)
   ·conv=>whnf
    refine H4 ?_
    refine ⟨l.length - (i+1),by omega,i+1,by omega,fun k hk=>?_,rfl,by rw [B7 (by omega)],rfl⟩
    rcases Nat.lt_succ_iff_lt_or_eq.1 hk with h' | h'
    ·exact hok k h'
    ·rw [h'];exact hp
   ·conv=>whnf
    refine ⟨?_,rfl⟩
    rw [R6 hi' hok hp];rfl
theorem A9g (l:List D8) (hl:l.length≤9223372036854775807) (v:D8) (st:St) :
  S P 238 [E6 l,eS v] st fun r st'=>r=eI (idx (fun y:D8=>v.toList==y.toList) l)∧st'=st:=by
 refine E3 [] Tryz.func238 ?_
 refine ⟨[0,1,7,8],fun m vs st'=>∃ i:Nat,i≤l.length∧(∀ k,k<i→(v.toList==(l.getD k default).toList)=false)∧m=l.length - i∧vs=[E6 l,eS v,eI l.length,eI i]∧st'=st,?_,?_⟩
 ·conv=>whnf
  exact ⟨_,0,Nat.zero_le _,fun k hk=>absurd hk (by omega),rfl,rfl,rfl⟩
 ·rintro m vs st' ⟨i,hi,hok,rfl,rfl,rfl⟩
  conv=>whnf
  cases h:decide ((i:Int)<(l.length:Int))
  ·have:=of_decide_eq_false h
   conv=>whnf
   refine ⟨?_,rfl⟩
   rw [J0 (p:=fun y:D8=>v.toList==y.toList) fun k hk=>hok k (by omega)];rfl
  ·have hi':i<l.length:=by have:=of_decide_eq_true h;omega
   conv=>whnf
   refine ⟨rfl,⟨by omega,by omega⟩,?_⟩
   rw [Int.toNat_natCast];conv=>whnf
   cases hp:(v.toList==(l.getD i default).toList)
   ·conv=>whnf
    refine H4 ?_
    refine ⟨l.length - (i+1),by omega,i+1,by omega,fun k hk=>?_,rfl,by rw [B7 (by omega)],rfl⟩
    rcases Nat.lt_succ_iff_lt_or_eq.1 hk with h' | h'
    ·exact hok k h'
    ·rw [h'];exact hp
   ·conv=>whnf
    refine ⟨?_,rfl⟩
    rw [R6 (p:=fun y:D8=>v.toList==y.toList) hi' hok hp];rfl
theorem B4n (l:List D8) (hl:l.length≤9223372036854775807) (v:D8) (st:St) :
  S P 150 [E6 l,eS v] st fun r st'=>r=.bool (l.any fun y:D8=>v.toList==y.toList)∧st'=st:=by
 refine E3 [] Tryz.func150 ?_
 refine H9 (A9g l hl v st) ?_
 refine ⟨?_,rfl⟩
 rw [←S3];rfl
theorem A8A (l:List Int) (hl:l.length≤9223372036854775807) (v:Int) (st:St) :
  S P 341 [B2 l,eI v] st fun r st'=>r=eI (idx (fun y:Int=>v==y) l)∧st'=st:=by
 refine E3 [] Tryz.func341 ?_
 refine ⟨[0,1,7,8],fun m vs st'=>∃ i:Nat,i≤l.length∧(∀ k,k<i→(v==l.getD k default)=false)∧m=l.length - i∧vs=[B2 l,eI v,eI l.length,eI i]∧st'=st,?_,?_⟩
 ·conv=>whnf
  exact ⟨_,0,Nat.zero_le _,fun k hk=>absurd hk (by omega),rfl,rfl,rfl⟩
 ·rintro m vs st' ⟨i,hi,hok,rfl,rfl,rfl⟩
  conv=>whnf
  cases h:decide ((i:Int)<(l.length:Int))
  ·have:=of_decide_eq_false h
   conv=>whnf
   refine ⟨?_,rfl⟩
   rw [J0 (p:=fun y:Int=>v==y) fun k hk=>hok k (by omega)];rfl
  ·have hi':i<l.length:=by have:=of_decide_eq_true h;omega
   conv=>whnf
   refine ⟨rfl,⟨by omega,by omega⟩,?_⟩
   rw [Int.toNat_natCast];conv=>whnf
   cases hp:(v==l.getD i default)
   ·conv=>whnf
    refine H4 ?_
    refine ⟨l.length - (i+1),by omega,i+1,by omega,fun k hk=>?_,rfl,by rw [B7 (by omega)],rfl⟩
    rcases Nat.lt_succ_iff_lt_or_eq.1 hk with h' | h'
    ·exact hok k h'
    ·rw [h'];exact hp
   ·conv=>whnf
    refine ⟨?_,rfl⟩
    rw [R6 (p:=fun y:Int=>v==y) hi' hok hp];rfl
theorem B3x (l:List Int) (hl:l.length≤9223372036854775807) (v:Int) (st:St) :
  S P 317 [B2 l,eI v] st fun r st'=>r=.bool (l.any fun y:Int=>v==y)∧st'=st:=by
 refine E3 [] Tryz.func317 ?_
 refine H9 (A8A l hl v st) ?_
 refine ⟨?_,rfl⟩
 rw [←S3];rfl
theorem A7y (l:List D8) (hl:l.length≤9223372036854775807) (v:D8) (st:St) :
  S P 344 [E6 l,eS v] st fun r st'=>r=eI (idx (fun y:D8=>v.toList==y.toList) l)∧st'=st:=by
 refine E3 [] Tryz.func344 ?_
 refine ⟨[0,1,7,8],fun m vs st'=>∃ i:Nat,i≤l.length∧(∀ k,k<i→(v.toList==(l.getD k default).toList)=false)∧m=l.length - i∧vs=[E6 l,eS v,eI l.length,eI i]∧st'=st,?_,?_⟩
 ·conv=>whnf
  exact ⟨_,0,Nat.zero_le _,fun k hk=>absurd hk (by omega),rfl,rfl,rfl⟩
 ·rintro m vs st' ⟨i,hi,hok,rfl,rfl,rfl⟩
  conv=>whnf
  cases h:decide ((i:Int)<(l.length:Int))
  ·have:=of_decide_eq_false h
   conv=>whnf
   refine ⟨?_,rfl⟩
   rw [J0 (p:=fun y:D8=>v.toList==y.toList) fun k hk=>hok k (by omega)];rfl
  ·have hi':i<l.length:=by have:=of_decide_eq_true h;omega
   conv=>whnf
   refine ⟨rfl,⟨by omega,by omega⟩,?_⟩
   rw [Int.toNat_natCast];conv=>whnf
   cases hp:(v.toList==(l.getD i default).toList)
   ·conv=>whnf
    refine H4 ?_
    refine ⟨l.length - (i+1),by omega,i+1,by omega,fun k hk=>?_,rfl,by rw [B7 (by omega)],rfl⟩
    rcases Nat.lt_succ_iff_lt_or_eq.1 hk with h' | h'
    ·exact hok k h'
    ·rw [h'];exact hp
   ·conv=>whnf
    refine ⟨?_,rfl⟩
    rw [R6 (p:=fun y:D8=>v.toList==y.toList) hi' hok hp];rfl
theorem B1P (l:List D8) (hl:l.length≤9223372036854775807) (v:D8) (st:St) :
  S P 326 [E6 l,eS v] st fun r st'=>r=.bool (l.any fun y:D8=>v.toList==y.toList)∧st'=st:=by
 refine E3 [] Tryz.func326 ?_
 refine H9 (A7y l hl v st) ?_
 refine ⟨?_,rfl⟩
 rw [←S3];rfl
theorem B1R (s:D8) (st:St):S P 351 [eS s] st fun v st'=>v=.bool (!Q8 s)∧st'=st:=by
 refine E3 [] Tryz.func351 ?_
 refine H9 (A2p s st) ?_
 exact ⟨rfl,rfl⟩
def A5p (l:List D8):Bool:=A0O l&&!(l.any fun s=>!Q8 s)
theorem B0T (l:List D8) (hl:l.length≤9223372036854775807) (st:St):S P 348 [E6 l] st fun v st'=>v=.bool (decide (l.length≤20)&&A5p l)∧st'=st:=by
 refine E3 [] Tryz.func348 ?_
 cases h:decide ((l.length:Int)≤20)
 ·have g:=of_decide_eq_false h
  conv=>whnf
  refine ⟨?_,rfl⟩
  rw [decide_eq_false (show ¬ l.length≤20 by omega)];rfl
 ·have g:=of_decide_eq_true h
  have e:decide (l.length≤20)=true:=decide_eq_true (by omega)
  conv=>whnf
  refine C1 (A5D l hl st) ?_
  unfold A5p
  cases hr:A0O l
  ·conv=>whnf
   exact ⟨by rw [e];rfl,rfl⟩
  ·conv=>whnf
   refine H9 (A9N l hl _ [] (fun s=>!Q8 s) st fun x _=>B1R x st) ?_
   exact ⟨by rw [e];rfl,rfl⟩
def A3I (s:O2):Bool:=(decide (s.skus.length≤20)&&A5p s.skus)&&(decide (s.cats.length≤20)&&A5p s.cats)
theorem B1c (s:O2) (h1:s.skus.length≤9223372036854775807) (h2:s.cats.length≤9223372036854775807) (st:St):S P 339 [A7n s] st fun v st'=>v=.bool (A3I s)∧st'=st:=by
 refine E3 [1] Tryz.func339 ?_
 refine C1 (B0T _ h1 st) ?_
 unfold A3I
 cases hr:(decide (s.skus.length≤20)&&A5p s.skus)
 ·conv=>whnf
  exact ⟨rfl,rfl⟩
 ·conv=>whnf
  refine H9 (B0T _ h2 st) ?_
  exact ⟨rfl,rfl⟩
end Go.Proofs.YtbajhapmlfbelaaGreat
namespace Go.Ab
open Go
theorem Q5 (x:Int):x.fdiv (2 ^ min (Int.toNat 32) IntKind.u64.bits)=x / 4294967296:=by
 show x.fdiv 4294967296=_
 exact Int.fdiv_eq_ediv_of_nonneg x (by decide)
theorem B3E (x:Int):IntKind.u64.wrap ↑(BitVec.ofInt IntKind.u64.bits x &&& BitVec.ofInt IntKind.u64.bits 4294967295).toNat=x % 4294967296:=by
 have h1:(BitVec.ofInt IntKind.u64.bits x &&& BitVec.ofInt IntKind.u64.bits 4294967295).toNat=(x % 18446744073709551616).toNat % 4294967296:=by
  show (BitVec.ofInt 64 x &&& BitVec.ofInt 64 4294967295).toNat=_
  rw [BitVec.toNat_and,BitVec.toNat_ofInt,BitVec.toNat_ofInt]
  have:(4294967295 % ((2 ^ 64:Nat):Int)).toNat=2 ^ 32 - 1:=by decide
  rw [this,Nat.and_two_pow_sub_one_eq_mod]
  rfl
 rw [h1]
 show (((x % 18446744073709551616).toNat % 4294967296:Nat):Int) % 18446744073709551616=_
 omega
theorem xy4 (x y:Int):x * y=(x / 4294967296 * (y / 4294967296)) * 18446744073709551616+(x / 4294967296 * (y % 4294967296)) * 4294967296+(x % 4294967296 * (y / 4294967296)) * 4294967296+x % 4294967296 * (y % 4294967296):=by
 have hx:=Int.mul_ediv_add_emod x 4294967296
 have hy:=Int.mul_ediv_add_emod y 4294967296
 generalize x / 4294967296=a at *
 generalize x % 4294967296=b at *
 generalize y / 4294967296=c at *
 generalize y % 4294967296=d at *
 subst hx hy
 rw [Int.add_mul,Int.mul_add,Int.mul_add]
 have e1:4294967296 * a * (4294967296 * c)=a * c * 18446744073709551616:=by
  rw [Int.mul_assoc,←Int.mul_assoc a,Int.mul_comm a 4294967296,Int.mul_assoc,←Int.mul_assoc];omega
 have e2:4294967296 * a * d=a * d * 4294967296:=by rw [Int.mul_assoc,Int.mul_comm]
 have e3:b * (4294967296 * c)=b * c * 4294967296:=by rw [Int.mul_comm 4294967296 c,Int.mul_assoc]
 omega
theorem B5w {a b:Int} (ha:0≤a) (ha':a≤4294967295) (hb:0≤b) (hb':b≤4294967295):0≤a * b∧a * b≤18446744065119617025 :=
 ⟨Int.mul_nonneg ha hb,Int.le_trans (Int.mul_le_mul ha' hb' hb (by decide)) (by decide)⟩
end Go.Ab
namespace Go.Proofs.YtbajhapmlfbelaaGreat
open Go Go.Ab
attribute [local irreducible] upd del
theorem B0R (x y:Int) (hx:0≤x∧x<18446744073709551616) (hy:0≤y∧y<18446744073709551616) (st:St):S P 301 [.int .u64 x,.int .u64 y] st fun v st'=>v=.tuple [.int .u64 (x * y / 18446744073709551616),.int .u64 (x * y % 18446744073709551616)]∧st'=st:=by
 refine E3 [] Tryz.func301 ?_
 refine ⟨?_,rfl⟩
 have h4:=xy4 x y
 simp only [Q5,B3E,A5s]
 have b1:=B5w (a:=x / 4294967296) (b:=y / 4294967296) (by omega) (by omega) (by omega) (by omega)
 have b2:=B5w (a:=x / 4294967296) (b:=y % 4294967296) (by omega) (by omega) (by omega) (by omega)
 have b3:=B5w (a:=x % 4294967296) (b:=y / 4294967296) (by omega) (by omega) (by omega) (by omega)
 have b4:=B5w (a:=x % 4294967296) (b:=y % 4294967296) (by omega) (by omega) (by omega) (by omega)
 have e1:IntKind.u64.wrap (x * y)=x * y % 18446744073709551616:=rfl
 rw [e1]
 generalize x / 4294967296 * (y / 4294967296)=p1 at *
 generalize x / 4294967296 * (y % 4294967296)=p2 at *
 generalize x % 4294967296 * (y / 4294967296)=p3 at *
 generalize x % 4294967296 * (y % 4294967296)=p4 at *
 generalize x * y=p at *
 have w:∀ z:Int,IntKind.u64.wrap z=z % 18446744073709551616:=fun _=>rfl
 simp only [w]
 congr 3
 congr 1
 omega
theorem A9 {x:Int} (h1:0≤x) (h2:x<18446744073709551616):IntKind.u64.wrap x=x:=by
 have w:IntKind.u64.wrap x=x % 18446744073709551616:=rfl
 rw [w];omega
def A4U (n:Nat) (x:Int):Prop:=x<2 ^ n∧(n=0∨(2:Int) ^ (n - 1)≤x)
def B6t (tab:D8):Bool:=decide (256≤tab.size)&&(List.range 256).all fun c=>Nat.ble (chr tab c).toNat 8&&Nat.blt c (2 ^ (chr tab c).toNat)&&(Nat.beq (chr tab c).toNat 0||Nat.ble (2 ^ ((chr tab c).toNat - 1)) c)
theorem T3 {tab:D8} {j:Int} {k:AV→Prop} (y:Nat) (hy:j=y) (hlt:y<256) (htab:B6t tab=true)
  (hk:∀ t:Nat,t≤8→A4U t y→k (.int .u8 t)):B7M tab j k:=by
 unfold B6t at htab
 rw [Bool.and_eq_true] at htab
 obtain ⟨h1,h2⟩:=htab
 have h1:=of_decide_eq_true h1
 have h3:=List.all_eq_true.1 h2 y (List.mem_range.2 hlt)
 simp only [Bool.and_eq_true,Bool.or_eq_true,Nat.ble_eq,Nat.blt_eq,Nat.beq_eq] at h3
 obtain ⟨⟨h4,h5⟩,h6⟩:=h3
 refine B6X (i:=y) hy (by omega) ?_
 have hc:chr tab y=((chr tab y).toNat:Int):=by
  have:0≤chr tab y:=by unfold chr;split<;>omega
  omega
 rw [hc]
 refine hk _ h4 ⟨?_,?_⟩
 ·exact_mod_cast h5
 ·rcases h6 with h6 | h6
  ·exact .inl h6
  ·right;exact_mod_cast h6
theorem M8 {b t:Nat} {x y:Int} (hy:y=x / 2 ^ b) (ht:A4U t y) (h0:b=0∨0<y):A4U (b+t) x:=by
 obtain ⟨h1,h2⟩:=ht
 have hp:(0:Int)<2 ^ b:=Int.pow_pos (by decide)
 have hm:=Int.mul_ediv_add_emod x (2 ^ b)
 have hl:=Int.emod_lt_of_pos x hp
 have hn:=Int.emod_nonneg x (Int.ne_of_gt hp)
 rw [←hy] at hm
 refine ⟨?_,?_⟩
 ·rw [Int.pow_add]
  have:(2:Int) ^ b * (y+1)≤2 ^ b * 2 ^ t:=Int.mul_le_mul_of_nonneg_left (by omega) (Int.le_of_lt hp)
  rw [Int.mul_add,Int.mul_one] at this
  omega
 ·rcases h2 with h2 | h2
  ·rcases h0 with h0 | h0
   ·left;omega
   ·subst h2;simp at h1;omega
  ·rcases Nat.eq_zero_or_pos t with ht | ht
   ·subst ht
    simp at h1 h2
    omega
   ·right
    rw [show b+t - 1=b+(t - 1) by omega,Int.pow_add]
    have:(2:Int) ^ b * 2 ^ (t - 1)≤2 ^ b * y:=Int.mul_le_mul_of_nonneg_left h2 (Int.le_of_lt hp)
    omega
theorem U3 (x:Int):x.fdiv (2 ^ min (Int.toNat 16) IntKind.u64.bits)=x / 65536:=by
 show x.fdiv 65536=_
 exact Int.fdiv_eq_ediv_of_nonneg x (by decide)
theorem A1V (x:Int):x.fdiv (2 ^ min (Int.toNat 8) IntKind.u64.bits)=x / 256:=by
 show x.fdiv 256=_
 exact Int.fdiv_eq_ediv_of_nonneg x (by decide)
theorem A1t (x:Int):IntKind.u8.wrap x=x % 256:=rfl
theorem B5r (x:Int) (hx:0≤x∧x<18446744073709551616) (st:St):S P 274 [.int .u64 x] st fun v st'=>(∃ n:Nat,v=eI n∧n≤64∧A4U n x)∧st'=st:=by
 refine E3 [] Tryz.func274 ?_
 refine B5 (fun ha=>?_) (fun ha=>?_)<;>rw [ha]<;>(conv=>whnf)<;>refine B5 (fun hb=>?_) (fun hb=>?_)<;>rw [hb]<;>(conv=>whnf)<;>refine B5 (fun hc=>?_) (fun hc=>?_)<;>rw [hc]<;>(conv=>whnf)<;>have hh:=And.intro ha (And.intro hb hc)<;>clear ha hb hc
 ·simp only [Q5,U3,A1V,decide_eq_true_eq,decide_eq_false_iff_not,ge_iff_le] at hh
  refine T3 (x / 72057594037927936).toNat ?_ ?_ (by kernel_rfl) (fun t ht hb=>?_)
  ·simp only [Q5,U3,A1V,A1t];omega
  ·omega
  ·rw [Int.toNat_of_nonneg (by omega)] at hb;conv=>whnf
   refine ⟨⟨56+t,?_,by omega,M8 (b:=56) (y:=x / 72057594037927936) rfl hb (by omega)⟩,rfl⟩
   show AV.int .i64 _=AV.int .i64 _
   congr 1
   simp only [IntKind.wrap_i64]
   omega
 ·simp only [Q5,U3,A1V,decide_eq_true_eq,decide_eq_false_iff_not,ge_iff_le] at hh
  refine T3 (x / 281474976710656).toNat ?_ ?_ (by kernel_rfl) (fun t ht hb=>?_)
  ·simp only [Q5,U3,A1V,A1t];omega
  ·omega
  ·rw [Int.toNat_of_nonneg (by omega)] at hb;conv=>whnf
   refine ⟨⟨48+t,?_,by omega,M8 (b:=48) (y:=x / 281474976710656) rfl hb (by omega)⟩,rfl⟩
   show AV.int .i64 _=AV.int .i64 _
   congr 1
   simp only [IntKind.wrap_i64]
   omega
 ·simp only [Q5,U3,A1V,decide_eq_true_eq,decide_eq_false_iff_not,ge_iff_le] at hh
  refine T3 (x / 1099511627776).toNat ?_ ?_ (by kernel_rfl) (fun t ht hb=>?_)
  ·simp only [Q5,U3,A1V,A1t];omega
  ·omega
  ·rw [Int.toNat_of_nonneg (by omega)] at hb;conv=>whnf
   refine ⟨⟨40+t,?_,by omega,M8 (b:=40) (y:=x / 1099511627776) rfl hb (by omega)⟩,rfl⟩
   show AV.int .i64 _=AV.int .i64 _
   congr 1
   simp only [IntKind.wrap_i64]
   omega
 ·simp only [Q5,U3,A1V,decide_eq_true_eq,decide_eq_false_iff_not,ge_iff_le] at hh
  refine T3 (x / 4294967296).toNat ?_ ?_ (by kernel_rfl) (fun t ht hb=>?_)
  ·simp only [Q5,U3,A1V,A1t];omega
  ·omega
  ·rw [Int.toNat_of_nonneg (by omega)] at hb;conv=>whnf
   refine ⟨⟨32+t,?_,by omega,M8 (b:=32) (y:=x / 4294967296) rfl hb (by omega)⟩,rfl⟩
   show AV.int .i64 _=AV.int .i64 _
   congr 1
   simp only [IntKind.wrap_i64]
   omega
 ·simp only [Q5,U3,A1V,decide_eq_true_eq,decide_eq_false_iff_not,ge_iff_le] at hh
  refine T3 (x / 16777216).toNat ?_ ?_ (by kernel_rfl) (fun t ht hb=>?_)
  ·simp only [Q5,U3,A1V,A1t];omega
  ·omega
  ·rw [Int.toNat_of_nonneg (by omega)] at hb;conv=>whnf
   refine ⟨⟨24+t,?_,by omega,M8 (b:=24) (y:=x / 16777216) rfl hb (by omega)⟩,rfl⟩
   show AV.int .i64 _=AV.int .i64 _
   congr 1
   simp only [IntKind.wrap_i64]
   omega
 ·simp only [Q5,U3,A1V,decide_eq_true_eq,decide_eq_false_iff_not,ge_iff_le] at hh
  refine T3 (x / 65536).toNat ?_ ?_ (by kernel_rfl) (fun t ht hb=>?_)
  ·simp only [Q5,U3,A1V,A1t];omega
  ·omega
  ·rw [Int.toNat_of_nonneg (by omega)] at hb;conv=>whnf
   refine ⟨⟨16+t,?_,by omega,M8 (b:=16) (y:=x / 65536) rfl hb (by omega)⟩,rfl⟩
   show AV.int .i64 _=AV.int .i64 _
   congr 1
   simp only [IntKind.wrap_i64]
   omega
 ·simp only [Q5,U3,A1V,decide_eq_true_eq,decide_eq_false_iff_not,ge_iff_le] at hh
  refine T3 (x / 256).toNat ?_ ?_ (by kernel_rfl) (fun t ht hb=>?_)
  ·simp only [Q5,U3,A1V,A1t];omega
  ·omega
  ·rw [Int.toNat_of_nonneg (by omega)] at hb;conv=>whnf
   refine ⟨⟨8+t,?_,by omega,M8 (b:=8) (y:=x / 256) rfl hb (by omega)⟩,rfl⟩
   show AV.int .i64 _=AV.int .i64 _
   congr 1
   simp only [IntKind.wrap_i64]
   omega
 ·simp only [Q5,U3,A1V,decide_eq_true_eq,decide_eq_false_iff_not,ge_iff_le] at hh
  refine T3 (x / 1).toNat ?_ ?_ (by kernel_rfl) (fun t ht hb=>?_)
  ·simp only [Q5,U3,A1V,A1t];omega
  ·omega
  ·rw [Int.toNat_of_nonneg (by omega)] at hb;conv=>whnf
   refine ⟨⟨0+t,?_,by omega,M8 (b:=0) (y:=x / 1) rfl hb (by omega)⟩,rfl⟩
   show AV.int .i64 _=AV.int .i64 _
   congr 1
   simp only [IntKind.wrap_i64]
   omega
theorem B3z (x:Int) (hx:0≤x∧x<18446744073709551616) (st:St):S P 336 [.int .u64 x] st fun v st'=>(∃ n:Nat,v=eI ((64 - n:Nat):Int)∧n≤64∧A4U n x)∧st'=st:=by
 refine E3 [] Tryz.func336 ?_
 refine call (B5r x hx st) (fun v st' hv=>?_)
 obtain ⟨⟨n,rfl,hn,hb⟩,rfl⟩:=hv
 conv=>whnf
 refine ⟨⟨n,?_,hn,hb⟩,rfl⟩
 show AV.int .i64 _=AV.int .i64 _
 congr 1
 rw [IntKind.wrap_i64]
 omega
end Go.Proofs.YtbajhapmlfbelaaGreat
namespace Go.Ab
open Go
structure A1X (u n y1 y0 q r:Int):Prop where
 hu:u=q * y1+r
 hr:0≤r
 hq:(u * 4294967296+n) / (y1 * 4294967296+y0)≤q
 h0:0≤q
theorem A6C {u n y1 y0 q r:Int} (h:u=q * y1+r):u * 4294967296+n - q * (y1 * 4294967296+y0)=r * 4294967296+n - q * y0:=by
 subst h
 have e1:(q * y1+r) * 4294967296=q * y1 * 4294967296+r * 4294967296:=by omega
 have e2:q * (y1 * 4294967296+y0)=q * y1 * 4294967296+q * y0:=by rw [Int.mul_add,←Int.mul_assoc]
 omega
theorem B3q {u n y1 y0 q r:Int} (hy:0<y1 * 4294967296+y0) (h:u=q * y1+r) (hg:q * y0≤r * 4294967296+n):q≤(u * 4294967296+n) / (y1 * 4294967296+y0):=by
 have:=A6C (n:=n) (y0:=y0) h
 exact (Int.le_ediv_iff_mul_le hy).2 (by omega)
theorem A2Q {u n y1 y0 q r:Int} (hy:0<y1 * 4294967296+y0) (h:u=q * y1+r) (hg:r * 4294967296+n<q * y0):(u * 4294967296+n) / (y1 * 4294967296+y0)<q:=by
 have:=A6C (n:=n) (y0:=y0) h
 exact (Int.ediv_lt_iff_lt_mul hy).2 (by omega)
theorem X3 {u n y1 y0:Int} (hu:0≤u) (hn:0≤n) (hn':n<4294967296) (h1:2147483648≤y1) (h0:0≤y0) (h0':y0<4294967296) (hl:u<y1 * 4294967296+y0) :
  A1X u n y1 y0 (u / y1) (u - u / y1 * y1)∧u - u / y1 * y1<y1∧u / y1≤4294967297:=by
 have hm:=Int.mul_ediv_add_emod u y1
 have hr:=Int.emod_nonneg u (show y1≠0 by omega)
 have hr':=Int.emod_lt_of_pos u (show 0<y1 by omega)
 have hq:0≤u / y1:=Int.ediv_nonneg hu (by omega)
 have e:u - u / y1 * y1=u % y1:=by rw [Int.mul_comm];omega
 refine ⟨⟨by omega,by omega,?_,hq⟩,by omega,?_⟩
 ·refine Int.le_of_lt_add_one ((Int.ediv_lt_iff_lt_mul (by omega)).2 ?_)
  have a1:(u / y1+1) * (y1 * 4294967296)≤(u / y1+1) * (y1 * 4294967296+y0):=Int.mul_le_mul_of_nonneg_left (by omega) (by omega)
  have a2:(u / y1+1) * (y1 * 4294967296)=(y1 * (u / y1)+y1) * 4294967296:=by
   rw [←Int.mul_assoc,Int.add_mul,Int.one_mul,Int.mul_comm y1]
  have a3:u+1≤y1 * (u / y1)+y1:=by omega
  omega
 ·refine Int.le_of_lt_add_one ((Int.ediv_lt_iff_lt_mul (by omega)).2 ?_)
  have:(4294967297+1) * y1=y1 * 4294967296+2 * y1:=by omega
  omega
theorem A1X.step {u n y1 y0 q r:Int} (h:A1X u n y1 y0 q r) (hy1:0≤y1) (hg:(u * 4294967296+n) / (y1 * 4294967296+y0)<q) (hp:0≤(u * 4294967296+n) / (y1 * 4294967296+y0)):A1X u n y1 y0 (q - 1) (r+y1):=by
 obtain ⟨a,b,c,d⟩:=h
 refine ⟨?_,by omega,by omega,by omega⟩
 rw [Int.sub_mul,Int.one_mul];omega
theorem A1X.stop {u n y1 y0 q r:Int} (h:A1X u n y1 y0 q r) (hy:0<y1 * 4294967296+y0) (hg:q * y0≤r * 4294967296+n):q=(u * 4294967296+n) / (y1 * 4294967296+y0) :=
 Int.le_antisymm (B3q hy h.hu hg) h.hq
theorem B0n {U L Y:Int} (hY:0<Y) (hL:0≤L) :
  let q1:=(U * 4294967296+L / 4294967296) / Y
  let V:=(U * 4294967296+L / 4294967296) % Y
  let q0:=(V * 4294967296+L % 4294967296) / Y
  q1 * 4294967296+q0=(U * 18446744073709551616+L) / Y∧(V * 4294967296+L % 4294967296) % Y=(U * 18446744073709551616+L) % Y:=by
 intro q1 V q0
 have h1:Y * q1+V=U * 4294967296+L / 4294967296:=Int.mul_ediv_add_emod _ Y
 have h2:Y * q0+(V * 4294967296+L % 4294967296) % Y=V * 4294967296+L % 4294967296:=Int.mul_ediv_add_emod _ Y
 have h3:=Int.emod_nonneg (V * 4294967296+L % 4294967296) (Int.ne_of_gt hY)
 have h4:=Int.emod_lt_of_pos (V * 4294967296+L % 4294967296) hY
 have h5:U * 18446744073709551616+L=(V * 4294967296+L % 4294967296) % Y+Y * (q1 * 4294967296+q0):=by
  rw [Int.mul_add,←Int.mul_assoc]
  omega
 rw [h5]
 constructor
 ·rw [Int.add_mul_ediv_left _ _ (Int.ne_of_gt hY),Int.ediv_eq_zero_of_lt h3 h4,Int.zero_add]
 ·rw [Int.add_mul_emod_self_left,Int.emod_emod]
theorem B2i {lo:Int} {s:Nat} (hs:s≤64):lo * 2 ^ s=(lo / 2 ^ (64 - s)) * 18446744073709551616+lo * 2 ^ s % 18446744073709551616:=by
 have e:(18446744073709551616:Int)=2 ^ (64 - s) * 2 ^ s:=by rw [←Int.pow_add,show 64 - s+s=64 by omega];rfl
 have hp:(0:Int)<2 ^ s:=Int.pow_pos (by decide)
 have:=Int.mul_ediv_add_emod (lo * 2 ^ s) 18446744073709551616
 have h2:lo * 2 ^ s / 18446744073709551616=lo / 2 ^ (64 - s):=by
  rw [e,Int.mul_ediv_mul_of_pos_left _ _ hp]
 rw [h2] at this
 omega
theorem B7q {N y:Int} {s:Nat} (hy:0<y):N * 2 ^ s / (y * 2 ^ s)=N / y∧N * 2 ^ s % (y * 2 ^ s) / 2 ^ s=N % y:=by
 have hp:(0:Int)<2 ^ s:=Int.pow_pos (by decide)
 refine ⟨Int.mul_ediv_mul_of_pos_left _ _ hp,?_⟩
 rw [Int.mul_comm N,Int.mul_comm y,Int.mul_emod_mul_of_pos _ _ hp,Int.mul_ediv_cancel_left _ (Int.ne_of_gt hp)]
theorem B7i {a b:Int} {s:Nat} (ha:0≤a) (hb:0≤b) (hb':b<2 ^ s) (hab:a * 2 ^ s+b<18446744073709551616) :
  IntKind.u64.wrap ↑(BitVec.ofInt IntKind.u64.bits (a * 2 ^ s) ||| BitVec.ofInt IntKind.u64.bits b).toNat=a * 2 ^ s+b:=by
 obtain ⟨A,rfl⟩:=Int.eq_ofNat_of_zero_le ha
 obtain ⟨B,rfl⟩:=Int.eq_ofNat_of_zero_le hb
 have e1:((A:Int) * 2 ^ s)=((A * 2 ^ s:Nat):Int):=by rw [Int.natCast_mul,Int.natCast_pow];rfl
 have hB:B<2 ^ s:=by exact_mod_cast hb'
 have hA:A * 2 ^ s+B<18446744073709551616:=by rw [e1] at hab;generalize A * 2 ^ s=C at *;omega
 have h1:(BitVec.ofInt IntKind.u64.bits ((A:Int) * 2 ^ s) ||| BitVec.ofInt IntKind.u64.bits (B:Int)).toNat=A * 2 ^ s+B:=by
  rw [e1]
  show (BitVec.ofInt 64 ((A * 2 ^ s:Nat):Int) ||| BitVec.ofInt 64 (B:Int)).toNat=_
  rw [BitVec.ofInt_natCast,BitVec.ofInt_natCast,BitVec.toNat_or,BitVec.toNat_ofNat,BitVec.toNat_ofNat,Nat.mod_eq_of_lt (by omega),Nat.mod_eq_of_lt (by omega)]
  rw [←Nat.shiftLeft_eq,Nat.shiftLeft_add_eq_or_of_lt hB]
 rw [h1]
 have w:∀ z:Int,IntKind.u64.wrap z=z % 18446744073709551616:=fun _=>rfl
 rw [w,e1]
 omega
theorem H5 {U n Y q:Int} (hY:0<Y) (hY':Y<18446744073709551616) (hq:q=(U * 4294967296+n) / Y) :
  IntKind.u64.wrap (IntKind.u64.wrap (IntKind.u64.wrap (U * 4294967296)+n) - IntKind.u64.wrap (q * Y))=(U * 4294967296+n) % Y:=by
 have w:∀ z:Int,IntKind.u64.wrap z=z % 18446744073709551616:=fun _=>rfl
 have h1:=Int.mul_ediv_add_emod (U * 4294967296+n) Y
 rw [←hq,Int.mul_comm] at h1
 have h2:=Int.emod_nonneg (U * 4294967296+n) (Int.ne_of_gt hY)
 have h3:=Int.emod_lt_of_pos (U * 4294967296+n) hY
 simp only [w]
 omega
end Go.Ab
