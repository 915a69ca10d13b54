/- Part 19 of the proof: contracts of the functions that the law reaches -/
import Derived.Test.YtaapofnkmpiknaaGreatRs18
set_option maxRecDepth 100000
set_option linter.unusedVariables false
set_option linter.unusedSimpArgs false
namespace Go.Proofs.YtaapofnkmpiknaaGreat
open Go Go.Ab
theorem B5R {P:Program} {t:TypeId} {name:String} {f:FuncId} (h:∀ v w,(method (P.types.size+Made.depth) t v name).run P w=.ok (f,v) w) (v:Value) (w:World) (args:Array Value):(callMethod (.iface t v) name args).run P w=(callFunc f (#[v]++args)).run P w:=by
 simp only [callMethod,Sem.run_bind,run_program,Result.andThen_ok,h]
theorem C9j (v : Value) (w : World) : (method (P.types.size + Made.depth) 318 v "Push").run P w = .ok (365, v) w := by kernel_rfl
theorem D2Z (v : Value) (w : World) : (method (P.types.size + Made.depth) 318 v "Pop").run P w = .ok (364, v) w := by kernel_rfl
theorem A3z {P:Program} {t el:TypeId} {name:String} {f:FuncId} {n:Nat} {o:Option (List FieldStep×Option (FuncId×Bool))} (hn:P.types.size+Made.depth=n+1)
  (hI:(P.info? t).map (fun I=>(I.methods.find? (·.name==name)).map fun m=>(m.path.toList,m.func))=some o) (ho:o=some ([],some (f,false))) (hu:P.underlying t=some (.pointer el))
  (ad:Addr) (u:Value) (w:World) (hl:(loadVar el ad).run P w=.ok u w):(method (P.types.size+Made.depth) t (.pointer (some ad)) name).run P w=.ok (f,u) w:=by
 subst ho
 rw [hn]
 cases hi:P.info? t with
 | none=>rw [hi] at hI;cases hI
 | some I =>
  rw [hi] at hI
  simp only [D7I,D7O] at hI
  cases hm:I.methods.find? (·.name==name) with
  | none=>rw [hm] at hI;cases hI
  | some m =>
   rw [hm] at hI
   simp only [D7I,D7O,Prod.mk.injEq] at hI
   obtain ⟨h1,h2⟩:=hI
   have hpe:m.path.isEmpty=true:=by
    rw [Array.isEmpty_iff];exact Array.toList_eq_nil_iff.1 h1
   unfold method
   simp only [Sem.run_bind,typeInfo,run_program,Result.andThen_ok,hi,hm,h1,h2,follow,Sem.run_pure,receiverAt,run_underlying hu,Place.get,hpe,if_true]
   have hs : (Builtin.ssaWrapNilChk_ #[t] t #[Value.pointer (some ad), strVal "", strVal ((name.splitOn ".").getLastD name)]).run P w = .ok (.pointer (some ad)) w := rfl
   rw [hs]
   simp only [Result.andThen_ok,asAddr,Sem.run_pure,hl]
theorem D2W (ad : Addr) (u : Value) (w : World) (hl : (loadVar 313 ad).run P w = .ok u w) : (method (P.types.size + Made.depth) 318 (.pointer (some ad)) "Len").run P w = .ok (361, u) w := A3z (P := P) (t := 318) (el := 313) (name := "Len") (f := 361) (n := P.types.size + Made.depth - 1) (by kernel_rfl) (by kernel_rfl) rfl (by kernel_rfl) ad u w hl
theorem C8Z (ad : Addr) (u : Value) (w : World) (hl : (loadVar 313 ad).run P w = .ok u w) : (method (P.types.size + Made.depth) 318 (.pointer (some ad)) "Less").run P w = .ok (362, u) w := A3z (P := P) (t := 318) (el := 313) (name := "Less") (f := 362) (n := P.types.size + Made.depth - 1) (by kernel_rfl) (by kernel_rfl) rfl (by kernel_rfl) ad u w hl
theorem C9a (ad : Addr) (u : Value) (w : World) (hl : (loadVar 313 ad).run P w = .ok u w) : (method (P.types.size + Made.depth) 318 (.pointer (some ad)) "Swap").run P w = .ok (363, u) w := A3z (P := P) (t := 318) (el := 313) (name := "Swap") (f := 363) (n := P.types.size + Made.depth - 1) (by kernel_rfl) (by kernel_rfl) rfl (by kernel_rfl) ad u w hl
def M:J1:=fun t n =>
 match Nat.beq t 318 with
 | false=>none
 | true=>match n with
  | "Len" => some (361, some 313)
  | "Less" => some (362, some 313)
  | "Swap" => some (363, some 313)
  | "Push" => some (365, none)
  | "Pop" => some (364, none)
  | _=>none
theorem mok:MOk P M:=fun t n f d h v w=>by
 unfold M at h
 split at h
 ·cases h
 rename_i ht
 have ht:=D7B ht
 subst ht
 split at h<;>first
  | (cases h;done)
  | (cases h;intro args;first | exact B5R C9j v w args | exact B5R D2Z v w args)
  | (cases h;rintro ad u args rfl hl;simp only [callMethod,Sem.run_bind,run_program,Result.andThen_ok];(first | rw [D2W ad u w hl] | rw [C8Z ad u w hl] | rw [C9a ad u w hl]);rfl)
theorem B4k:A7o P T M:=C5H C8J mok
theorem E7 {e e':Nat} {j:Int} {n:Nat} {k q:Prop} (h:q) (h1:e=e':=by rfl) (h2:0≤j∧j<(n:Int):=by omega) (hk:k=q:=by conv=>lhs;whnf):e=e'∧(0≤j∧j<n)∧k:=⟨h1,h2,hk▸h⟩
theorem F7 {a b:Nat} {k q:Prop} (h:q) (h1:a=b:=by rfl) (hk:k=q:=by conv=>lhs;whnf):a=b∧k:=⟨h1,hk▸h⟩
theorem J0 {T:G5} {t:TypeId} {e b i o ty n:Nat} {st:St} {k:KK} {r:C3} {f:Nat→AV} {v:AV} {q:Prop} (h:st b=some ⟨ty,e,n,f⟩) (hv:f i=v) (h':q) (hr:T t=some r:=by rfl) (hi:i<n:=by omega)
  (hk:A8N r (cellsOf v) o (fun y=>k y st)=q:=by conv=>lhs;whnf):C2e T t e b i o st k:=ldV h hr hi hv (hk▸h')
theorem stU {T:G5} {t:TypeId} {e b i o ty n:Nat} {u v:AV} {st:St} {k:KK} {r:C3} {f:Nat→AV} (h:st b=some ⟨ty,e,n,f⟩) (hv:f i=v)
  (hk:k (.tuple []) (upd st b ⟨ty,e,n,I3 f i (Q1 v o (cellsOf u))⟩)) (hr:T t=some r:=by rfl) (hi:i<n:=by omega)
  (hc:(Nat.blt 0 r.size&&Nat.beq (cellsOf u).length r.size&&(cellsOf u).all AV.one&&Nat.ble (o+r.size) e)=true:=by rfl):B7g T t e b i o u st k:=stV h hr hi hv hc hk
theorem Y9 {T:G5} {t:TypeId} {e b i o ty n:Nat} {u v:AV} {st:St} {k:KK} {r:C3} {f:Nat→AV} {q:Prop} (h:st b=some ⟨ty,e,n,f⟩) (hv:f i=v) (h':q) (hr:T t=some r:=by rfl) (hi:i<n:=by omega)
  (hc:(Nat.blt 0 r.size&&Nat.beq (cellsOf u).length r.size&&(cellsOf u).all AV.one&&Nat.ble (o+r.size) e)=true:=by rfl)
  (hk:k (.tuple []) (upd st b ⟨ty,e,n,I3 f i (Q1 v o (cellsOf u))⟩)=q:=by conv=>lhs;whnf):B7g T t e b i o u st k:=stV h hr hi hv hc (hk▸h')
theorem I5 {P:Program} {f:FuncId} {args:List AV} {st:St} {v:AV} {k:KK} {q:Prop} (h:S P f args st fun v' st'=>v'=v∧st'=st) (h':q) (hk:k v st=q:=by conv=>lhs;whnf):A1O P f args st k:=B3 h (hk▸h')
theorem cqW {P:Program} {f:FuncId} {args:List AV} {st:St} {v:AV} {k:AV→Prop} {q:Prop} (h:S P f args st fun v' st'=>v'=v∧st'=st) (h':q) (hk:k v=q:=by conv=>lhs;whnf) :
  ∃ v,A1O P f args st (fun v' st'=>v'=v∧st'=st)∧k v:=⟨v,call h fun _ _ h=>h,hk▸h'⟩
theorem SyW (frz:List Nat) {f:FuncId} {fn:Func} {c:Code} {args:List AV} {st:St} {post:KK} {n:Nat} {rs:Array ResultVar} (hf:P.funcs[f]?=some fn)
  (h : A3Z args n fun A => ZC P T M frz (yDr P T M frz) [] c A st (C2b T rs.toList post)) (hname : (fn.name == "runtime.NumGoroutine") = false := by rfl) (hb : fn.body = some c := by rfl) (hn : fn.ntmps = n := by rfl) (hr : fn.results = rs := by rfl) :
  S P f args st post:=C2s frz B4k mixed hf hname hb hn hr h
theorem F2 (frz:List Nat) {f:FuncId} {fn:Func} {c:Code} {args:List AV} {st:St} {post:KK} {n:Nat} {rs:Array ResultVar} {q:Prop} (hf:P.funcs[f]?=some fn) (h:q)
  (hname : (fn.name == "runtime.NumGoroutine") = false := by rfl) (hb : fn.body = some c := by rfl) (hn : fn.ntmps = n := by rfl) (hr : fn.results = rs := by rfl)
  (hk:(A3Z args n fun A=>ZC P T M frz (yDr P T M frz) [] c A st (C2b T rs.toList post))=q:=by conv=>lhs;whnf):S P f args st post:=C2s frz B4k mixed hf hname hb hn hr (hk▸h)
end Go.Proofs.YtaapofnkmpiknaaGreat
namespace Go.Ab
open Go
theorem lp {A:List AV} {st:St} (n:Nat) (keep:List Nat) (J:Nat→List AV→St→Prop) {B:List Nat→(Nat→KA)→Nat→List AV→St→Prop}
  (h0:A3H A keep fun us=>J 0 us st) (h:∀ i vs s,i≤n→J i vs s→B keep (fun m vs s=>∃ i,i≤n∧m=n - i∧J i vs s) (n - i) vs s) :
  ∃ (keep:List Nat) (I:Nat→KA),(A3H A keep fun us=>∃ m,I m us st)∧∀ m vs s,I m vs s→B keep I m vs s:=by
 rw [A2q] at h0
 refine ⟨keep,fun m vs s=>∃ i,i≤n∧m=n - i∧J i vs s,?_,?_⟩
 ·rw [A2q];exact ⟨n,0,D6e _,rfl,h0⟩
 ·rintro m vs s ⟨i,hi,rfl,hj⟩;exact h i vs s hi hj
theorem nx {n i:Nat} {J:Nat→Prop} (hi:i<n) (h:J (i+1)):∃ m',m'<n - i∧∃ i',i'≤n∧m'=n - i'∧J i':=⟨n - (i+1),by omega,i+1,hi,rfl,h⟩
theorem C4 {i n:Nat} (h:decide ((i:Int)<(n:Int))=false) (hi:i≤n):i=n:=by have:=D5G h;omega
theorem D8 {i n:Nat} (h:decide ((i:Int)<(n:Int))=true):i<n:=by have:=D5F h;omega
def E0 {α : Type} [Inhabited α] (ty e:Nat) (enc : α→AV) (L:List α) (st:St) (sv:AV) (st':St):Prop:=Col ty e (fun k=>enc (L.getD k default)) st L.length sv st'
theorem E0.start {α : Type} [Inhabited α] (ty e:Nat) (enc : α→AV) (st:St):E0 ty e enc [] st .emp st:=Col.start _ _ _ _
theorem C0H {α : Type} [Inhabited α] (L:List α) (x : α):(L++[x]).getD L.length default=x:=by simp [D5C]
theorem A4n {α : Type} [Inhabited α] {a b:List α} {k:Nat} (h:k<a.length):(a++b).getD k default=a.getD k default:=by
 rw [D5C,D5C,D6a h]
theorem E0.app {α : Type} [Inhabited α] {T:G5} {t:TypeId} {x sv:AV} {st st':St} {k:KK} {r q:C3} {el:Nat} {enc : α→AV} {L:List α} {y : α} {g:Nat→AV} (hr:T t=some r) (hd:r.desc=.slice el) (hq:T el=some q)
  (hz:(Nat.blt 0 q.size&&Nat.blt 0 q.bytes&&Nat.beq q.zero.cells.size q.size)=true) (hs:A0g q.size st' x=some (1,g)) (hg:g 0=enc y) (hb:(L.length+1) * q.bytes≤140737488355328)
  (hc:E0 el q.size enc L st sv st') (hk:∀ sv' st'',E0 el q.size enc (L++[y]) st sv' st''→k sv' st''):A5A T t sv x st' k:=by
 refine Col.app (f:=fun k=>enc ((L++[y]).getD k default)) hr hd hq hz hs (by show g 0=enc _;rw [C0H];exact hg) hb (Col.congr hc fun k hk=>by show enc _=enc _;rw [A4n hk]) (fun sv' st'' h=>hk sv' st'' ?_)
 unfold E0
 rw [D5O];exact h
theorem A0L {α : Type} [Inhabited α] {P:Program} {F:FuncId} {args:List AV} {st:St} {ty e:Nat} {enc : α→AV} {L:List α} (h:S P F args st fun v st'=>E0 ty e enc L st v st'):S P F args st fun v st'=>v=A8 e enc L∧st'=st:=C2p h
theorem E0.shift {α : Type} [Inhabited α] {ty e:Nat} {enc : α→AV} {L:List α} {st:St} {sv:AV} {st':St} (h:E0 ty e enc L st sv st'):A7 [sv] st' [A8 e enc L] st:=Col.shift h
theorem E0.sup {α : Type} [Inhabited α] {ty e:Nat} {enc : α→AV} {L:List α} {st:St} {sv:AV} {st':St} (h:E0 ty e enc L st sv st'):E8 st st':=Col.sup h
theorem A1N {α β : Type} [Inhabited α] {l:List α} {i:Nat} (h:i<l.length) (g : α→β):(l.take (i+1)).map g=(l.take i).map g++[g (l.getD i default)]:=by rw [K4 h,D6g];rfl
end Go.Ab
namespace Go.Proofs.YtaapofnkmpiknaaGreat
open Go Go.Ab
attribute [local irreducible] upd del
def chr (s:C8) (i:Nat):Int:=if h:i<s.size then ((s[i]'h).toNat:Int) else 0
theorem C7L {s:C8} {i:Nat} {j:Int} (hj:j.toNat=i) (h:j.toNat<s.size):((s[j.toNat]'h).toNat:Int)=chr s i:=by
 subst hj;unfold chr;rw [dif_pos h]
theorem C5O {s:C8} {j:Int} {k:AV→Prop} {i:Nat} (hj:j=i) (hi:i<s.size) (hk:k (.int .u8 (chr s i))):C8M s j k:=by
 refine ⟨⟨by omega,by omega⟩,?_⟩
 rw [C7L (i:=i) (by omega) (by omega)]
 exact hk
def okc (c:Int):Bool:=c==45||(decide (48≤c)&&decide (c≤57))||(decide (97≤c)&&decide (c≤122))
theorem B0s (c:Int):okc c=true↔c=45∨(48≤c∧c≤57)∨(97≤c∧c≤122):=by
 simp [okc,or_assoc]
def D0 (s:C8):Bool:=decide (1≤s.size)&&decide (s.size≤12)&&(List.range s.size).all fun i=>okc (chr s i)
theorem A6D {n:Nat} {p:Nat→Bool} (h:∀ k,k<n→p k=true):(List.range n).all p=true:=D5Y.2 fun k hk=>h k (D5S.1 hk)
theorem A4r {n k:Nat} {p:Nat→Bool} (hk:k<n) (h:p k=false):(List.range n).all p=false:=by
 rw [D7s];intro e;rw [D5Y.1 e k (D5S.2 hk)] at h;cases h
theorem A2F (s:C8) (st:St):S P 119 [eS s] st fun v st'=>v=.bool (D0 s)∧st'=st:=by
 refine F2 [] Tryz.func119 ?_
 cases h1:decide ((s.size:Int)<1)
 ·conv=>whnf
  cases h2:decide ((s.size:Int)>12)
  ·have g1:=D5G h1
   have g2:=D5G h2
   have hn:D0 s=(List.range s.size).all fun i=>okc (chr s i):=by
    unfold D0
    rw [D6m (by omega),D6m (by omega)];rfl
   conv=>whnf
   refine ⟨[0,14,15],fun m vs st'=>∃ i:Nat,i≤s.size∧(∀ k,k<i→okc (chr s k)=true)∧m=s.size - i∧vs=[eS s,eI s.size,eI i]∧st'=st,?_,?_⟩
   ·conv=>whnf
    exact ⟨_,0,D6e _,fun k hk=>absurd hk (by omega),rfl,rfl,rfl⟩
   ·rintro m vs st' ⟨i,hi,hok,rfl,rfl,rfl⟩
    conv=>whnf
    cases h3:decide ((i:Int)<(s.size:Int))
    ·have:=D5G h3
     conv=>whnf
     refine ⟨?_,rfl⟩
     rw [hn,A6D fun k hk=>hok k (by omega)];rfl
    ·have hlt:i<s.size:=by have:=D5F h3;omega
     conv=>whnf
     refine C5O (i:=i) rfl hlt ?_
     have yes:okc (chr s i)=true→∀ k,k<i+1→okc (chr s k)=true:=fun h k hk=>by
      rcases D6y.1 hk with h' | h'
      ·exact hok k h'
      ·rw [h'];exact h
     have no:okc (chr s i)=false→D0 s=false:=fun h=>by rw [hn];exact A4r hlt h
     generalize chr s i=c at *
     repeat' ((conv=>whnf);refine B8 (fun h=>?_) (fun h=>?_)<;>rw [h])
     all_goals (conv=>whnf)
     all_goals first
      | (refine ⟨?_,rfl⟩
         rw [no (by rw [←D6D,B0s];simp only [D8h,ne_eq,D5E,D5D,bne_eq_false_iff_eq] at *;omega)]
         rfl)
      | (refine ⟨rfl,?_⟩
         conv=>whnf
         exact ⟨s.size - (i+1),by omega,i+1,by omega,yes ((B0s c).2 (by simp only [D8h,ne_eq,D5E,D5D,bne_eq_false_iff_eq] at *;omega)),rfl,by rw [B4 (by omega)],rfl⟩)
  ·have g2:=D5F h2
   conv=>whnf
   refine ⟨?_,rfl⟩
   unfold D0
   rw [D5J (show ¬ s.size≤12 by omega),D6j];rfl
 ·have g1:=D5F h1
  conv=>whnf
  refine ⟨?_,rfl⟩
  unfold D0
  rw [D5J (show ¬ 1≤s.size by omega)];rfl
theorem A6Q (x:Int) (st:St):S P 72 [eI x] st fun v st'=>v=.bool (decide (0≤x)&&decide (x≤100000000000000))∧st'=st:=by
 refine F2 [] Tryz.func72 ?_
 cases h:decide (x≥0)
 ·conv=>whnf
  have h':decide (0≤x)=false:=h
  exact ⟨by simp [B0c,h'],rfl⟩
 ·conv=>whnf
  have h':decide (0≤x)=true:=h
  exact ⟨by simp [B0c,h'],rfl⟩
def slt (a b:C8):Bool:=Op.bytesLess a.toList b.toList
def P0 (l:List C8) (k:Nat):Bool:=k==0||slt (l.getD (k - 1) default) (l.getD k default)
def A0q (l:List C8):Bool:=(List.range l.length).all (P0 l)
theorem B1R (l:List C8) (hl:l.length≤9223372036854775807) (st:St):S P 170 [C9 l] st fun v st'=>v=.bool (A0q l)∧st'=st:=by
 refine F2 [] Tryz.func170 ?_
 refine ⟨[0,5,6],fun m vs st'=>∃ i:Nat,i≤l.length∧(∀ k,k<i→P0 l k=true)∧m=l.length - i∧vs=[C9 l,eI l.length,eI i]∧st'=st,?_,?_⟩
 ·conv=>whnf
  exact ⟨_,0,D6e _,fun k hk=>absurd hk (by omega),rfl,rfl,rfl⟩
 ·rintro m vs st' ⟨i,hi,hok,rfl,rfl,rfl⟩
  conv=>whnf
  cases h:decide ((i:Int)<(l.length:Int))
  ·have:=D5G h
   conv=>whnf
   refine ⟨?_,rfl⟩
   unfold A0q
   rw [A6D fun k hk=>hok k (by omega)];rfl
  ·have hi':i<l.length:=by have:=D5F h;omega
   have yes:P0 l i=true→∀ k,k<i+1→P0 l k=true:=fun h k hk=>by
    rcases D6y.1 hk with h' | h'
    ·exact hok k h'
    ·rw [h'];exact h
   conv=>whnf
   refine ⟨[],[],[0,1,2,3,4,5,6,7,8,9,10,11,12,13],by kernel_rfl,?_⟩;conv=>whnf
   cases h2:decide ((i:Int)>0)
   ·have h0:i=0:=by have:=D5G h2;omega
    conv=>whnf
    refine F7 ?_
    exact ⟨l.length - (i+1),by omega,i+1,by omega,yes (by unfold P0;rw [h0];rfl),rfl,by rw [B4 (by omega)],rfl⟩
   ·have hp:0<i:=by have:=D5F h2;omega
    have hw:IntKind.i64.wrap ((i:Int) - 1)=((i - 1:Nat):Int):=by rw [A5 (by omega) (by omega)];omega
    have e:P0 l i=Op.bytesLess (l.getD ((i - 1:Nat):Int).toNat default).toList (l.getD (i:Int).toNat default).toList:=by
     unfold P0 slt
     rw [D5P,D5P,D7u (by omega),D6q]
    conv=>whnf
    refine ⟨rfl,⟨by omega,by omega⟩,?_⟩
    rw [hw];conv=>whnf
    refine E7 ?_
    cases h3:Op.bytesLess (l.getD ((i - 1:Nat):Int).toNat default).toList (l.getD (i:Int).toNat default).toList
    ·conv=>whnf
     refine ⟨?_,rfl⟩
     unfold A0q
     rw [A4r hi' (by rw [e,h3])];rfl
    ·conv=>whnf
     refine F7 ?_
     exact ⟨l.length - (i+1),by omega,i+1,by omega,yes (by rw [e,h3]),rfl,by rw [B4 (by omega)],rfl⟩
def idx {α : Type} (p : α→Bool):List α→Int
 | []=>-1
 | x::l=>if p x then 0 else if idx p l<0 then -1 else idx p l+1
theorem U1 {α : Type} [Inhabited α] {p : α→Bool}:∀ {l:List α},(∀ k,k<l.length→p (l.getD k default)=false)→idx p l = -1
 | [],_=>rfl
 | x::l,h=>by
  have h0:=h 0 (by simp)
  have ih:=U1 (l:=l) (fun k hk=>h (k+1) (by simpa using hk))
  simp only [D8D] at h0
  simp [idx,h0,ih]
theorem A1A {α : Type} [Inhabited α] {p : α→Bool}:∀ {l:List α} {i:Nat},i<l.length→(∀ k,k<i→p (l.getD k default)=false)→p (l.getD i default)=true→idx p l=i
 | [],i,hi,_,_=>by simp at hi
 | x::l,0,_,_,h=>by
  simp only [D8D] at h
  simp [idx,h]
 | x::l,i+1,hi,hk,h=>by
  have h0:=hk 0 (by omega)
  simp only [D8D] at h0
  have ih:=A1A (l:=l) (i:=i) (by simpa using hi) (fun k hk'=>hk (k+1) (by omega)) (by simpa using h)
  simp only [idx,h0,ih]
  rw [if_neg (by simp),if_neg (by omega)];omega
theorem A9f {α : Type} (p : α→Bool):∀ l:List α,-1≤idx p l∧idx p l<l.length
 | []=>by simp [idx]
 | x::l=>by
  have:=A9f p l
  simp only [idx,D6p]
  split
  ·omega
  ·split<;>omega
theorem B5J {α : Type} (p : α→Bool):∀ l:List α,0≤idx p l↔l.any p=true
 | []=>by simp [idx]
 | x::l=>by
  have ih:=B5J p l
  have hb:=A9f p l
  have e:idx p (x::l)=if p x then 0 else if idx p l<0 then -1 else idx p l+1:=rfl
  rw [e,List.any_cons]
  by_cases hx:p x=true
  ·rw [if_pos hx,hx];simp
  ·rw [if_neg hx,D7s.2 hx,D6q,←ih]
   split<;>omega
theorem A1z {α : Type} (p : α→Bool) (l:List α):decide (idx p l≥0)=l.any p:=by
 rw [D8I,D5E];exact B5J p l
theorem B4u (l:List C8) (hl:l.length≤9223372036854775807) (g:FuncId) (cs:List AV) (p:C8→Bool) (st:St)
  (hg:∀ x,x∈l→S P g (eS x::cs) st fun v st'=>v=.bool (p x)∧st'=st) :
  S P 341 [C9 l,.fn (.func g) [] cs] st fun v st'=>v=eI (idx p l)∧st'=st:=by
 refine F2 [] Tryz.func341 ?_
 refine ⟨[0,1,7,8],fun m vs st'=>∃ i:Nat,i≤l.length∧(∀ k,k<i→p (l.getD k default)=false)∧m=l.length - i∧vs=[C9 l,.fn (.func g) [] cs,eI l.length,eI i]∧st'=st,?_,?_⟩
 ·conv=>whnf
  exact ⟨_,0,D6e _,fun k hk=>absurd hk (by omega),rfl,rfl,rfl⟩
 ·rintro m vs st' ⟨i,hi,hok,rfl,rfl,rfl⟩
  conv=>whnf
  cases h:decide ((i:Int)<(l.length:Int))
  ·have:=D5G h
   conv=>whnf
   refine ⟨?_,rfl⟩
   rw [U1 fun k hk=>hok k (by omega)];rfl
  ·have hi':i<l.length:=by have:=D5F h;omega
   conv=>whnf
   refine E7 ?_
   refine B3 (hg (l.getD (i:Int).toNat default) (by simp [hi'])) ?_
   rw [D5P]
   cases hp:p (l.getD i default)
   ·conv=>whnf
    refine F7 ?_
    refine ⟨l.length - (i+1),by omega,i+1,by omega,fun k hk=>?_,rfl,by rw [B4 (by omega)],rfl⟩
    rcases D6y.1 hk with h' | h'
    ·exact hok k h'
    ·rw [h'];exact hp
   ·conv=>whnf
    refine ⟨?_,rfl⟩
    rw [A1A hi' hok hp];rfl
theorem B7W (l:List C8) (hl:l.length≤9223372036854775807) (g:FuncId) (cs:List AV) (p:C8→Bool) (st:St)
  (hg:∀ x,x∈l→S P g (eS x::cs) st fun v st'=>v=.bool (p x)∧st'=st) :
  S P 330 [C9 l,.fn (.func g) [] cs] st fun v st'=>v=.bool (l.any p)∧st'=st:=by
 refine F2 [] Tryz.func330 ?_
 refine I5 (B4u l hl g cs p st hg) ?_
 refine ⟨?_,rfl⟩
 rw [←A1z];rfl
theorem B6T (l:List C8) (hl:l.length≤9223372036854775807) (g:FuncId) (cs:List AV) (p:C8→Bool) (st:St)
  (hg:∀ x,x∈l→S P g (eS x::cs) st fun v st'=>v=.bool (p x)∧st'=st) :
  S P 221 [C9 l,.fn (.func g) [] cs] st fun v st'=>v=eI (idx p l)∧st'=st:=by
 refine F2 [] Tryz.func221 ?_
 refine ⟨[0,1,7,8],fun m vs st'=>∃ i:Nat,i≤l.length∧(∀ k,k<i→p (l.getD k default)=false)∧m=l.length - i∧vs=[C9 l,.fn (.func g) [] cs,eI l.length,eI i]∧st'=st,?_,?_⟩
 ·conv=>whnf
  exact ⟨_,0,D6e _,fun k hk=>absurd hk (by omega),rfl,rfl,rfl⟩
 ·rintro m vs st' ⟨i,hi,hok,rfl,rfl,rfl⟩
  conv=>whnf
  cases h:decide ((i:Int)<(l.length:Int))
  ·have:=D5G h
   conv=>whnf
   refine ⟨?_,rfl⟩
   rw [U1 fun k hk=>hok k (by omega)];rfl
  ·have hi':i<l.length:=by have:=D5F h;omega
   conv=>whnf
   refine E7 ?_
   refine B3 (hg (l.getD (i:Int).toNat default) (by simp [hi'])) ?_
   rw [D5P]
   cases hp:p (l.getD i default)
   ·conv=>whnf
    refine F7 ?_
    refine ⟨l.length - (i+1),by omega,i+1,by omega,fun k hk=>?_,rfl,by rw [B4 (by omega)],rfl⟩
    rcases D6y.1 hk with h' | h'
    ·exact hok k h'
    ·rw [h'];exact hp
   ·conv=>whnf
    refine ⟨?_,rfl⟩
    rw [A1A hi' hok hp];rfl
theorem C1M (l:List C8) (hl:l.length≤9223372036854775807) (g:FuncId) (cs:List AV) (p:C8→Bool) (st:St)
  (hg:∀ x,x∈l→S P g (eS x::cs) st fun v st'=>v=.bool (p x)∧st'=st) :
  S P 171 [C9 l,.fn (.func g) [] cs] st fun v st'=>v=.bool (l.any p)∧st'=st:=by
 refine F2 [] Tryz.func171 ?_
 refine I5 (B6T l hl g cs p st hg) ?_
 refine ⟨?_,rfl⟩
 rw [←A1z];rfl
theorem B2I (l:List B1) (hl:l.length≤9223372036854775807) (g:FuncId) (cs:List AV) (p:B1→Bool) (st:St)
  (hg:∀ x,x∈l→S P g (B7 x::cs) st fun v st'=>v=.bool (p x)∧st'=st) :
  S P 249 [A8 15 B7 l,.fn (.func g) [] cs] st fun v st'=>v=eI (idx p l)∧st'=st:=by
 refine F2 [] Tryz.func249 ?_
 refine ⟨[0,1,7,8],fun m vs st'=>∃ i:Nat,i≤l.length∧(∀ k,k<i→p (l.getD k default)=false)∧m=l.length - i∧vs=[A8 15 B7 l,.fn (.func g) [] cs,eI l.length,eI i]∧st'=st,?_,?_⟩
 ·conv=>whnf
  exact ⟨_,0,D6e _,fun k hk=>absurd hk (by omega),rfl,rfl,rfl⟩
 ·rintro m vs st' ⟨i,hi,hok,rfl,rfl,rfl⟩
  conv=>whnf
  cases h:decide ((i:Int)<(l.length:Int))
  ·have:=D5G h
   conv=>whnf
   refine ⟨?_,rfl⟩
   rw [U1 fun k hk=>hok k (by omega)];rfl
  ·have hi':i<l.length:=by have:=D5F h;omega
   conv=>whnf
   refine E7 ?_
   refine B3 (hg (l.getD (i:Int).toNat default) (by simp [hi'])) ?_
   rw [D5P]
   cases hp:p (l.getD i default)
   ·conv=>whnf
    refine F7 ?_
    refine ⟨l.length - (i+1),by omega,i+1,by omega,fun k hk=>?_,rfl,by rw [B4 (by omega)],rfl⟩
    rcases D6y.1 hk with h' | h'
    ·exact hok k h'
    ·rw [h'];exact hp
   ·conv=>whnf
    refine ⟨?_,rfl⟩
    rw [A1A hi' hok hp];rfl
theorem B6p (l:List B1) (hl:l.length≤9223372036854775807) (g:FuncId) (cs:List AV) (p:B1→Bool) (st:St)
  (hg:∀ x,x∈l→S P g (B7 x::cs) st fun v st'=>v=.bool (p x)∧st'=st) :
  S P 197 [A8 15 B7 l,.fn (.func g) [] cs] st fun v st'=>v=.bool (l.any p)∧st'=st:=by
 refine F2 [] Tryz.func197 ?_
 refine I5 (B2I l hl g cs p st hg) ?_
 refine ⟨?_,rfl⟩
 rw [←A1z];rfl
theorem B4z (l:List A2n) (hl:l.length≤9223372036854775807) (g:FuncId) (cs:List AV) (p:A2n→Bool) (st:St)
  (hg:∀ x,x∈l→S P g (W1 x::cs) st fun v st'=>v=.bool (p x)∧st'=st) :
  S P 308 [A8 3 W1 l,.fn (.func g) [] cs] st fun v st'=>v=eI (idx p l)∧st'=st:=by
 refine F2 [] Tryz.func308 ?_
 refine ⟨[0,1,7,8],fun m vs st'=>∃ i:Nat,i≤l.length∧(∀ k,k<i→p (l.getD k default)=false)∧m=l.length - i∧vs=[A8 3 W1 l,.fn (.func g) [] cs,eI l.length,eI i]∧st'=st,?_,?_⟩
 ·conv=>whnf
  exact ⟨_,0,D6e _,fun k hk=>absurd hk (by omega),rfl,rfl,rfl⟩
 ·rintro m vs st' ⟨i,hi,hok,rfl,rfl,rfl⟩
  conv=>whnf
  cases h:decide ((i:Int)<(l.length:Int))
  ·have:=D5G h
   conv=>whnf
   refine ⟨?_,rfl⟩
   rw [U1 fun k hk=>hok k (by omega)];rfl
  ·have hi':i<l.length:=by have:=D5F h;omega
   conv=>whnf
   refine E7 ?_
   refine B3 (hg (l.getD (i:Int).toNat default) (by simp [hi'])) ?_
   rw [D5P]
   cases hp:p (l.getD i default)
   ·conv=>whnf
    refine F7 ?_
    refine ⟨l.length - (i+1),by omega,i+1,by omega,fun k hk=>?_,rfl,by rw [B4 (by omega)],rfl⟩
    rcases D6y.1 hk with h' | h'
    ·exact hok k h'
    ·rw [h'];exact hp
   ·conv=>whnf
    refine ⟨?_,rfl⟩
    rw [A1A hi' hok hp];rfl
theorem B8f (l:List A2n) (hl:l.length≤9223372036854775807) (g:FuncId) (cs:List AV) (p:A2n→Bool) (st:St)
  (hg:∀ x,x∈l→S P g (W1 x::cs) st fun v st'=>v=.bool (p x)∧st'=st) :
  S P 279 [A8 3 W1 l,.fn (.func g) [] cs] st fun v st'=>v=.bool (l.any p)∧st'=st:=by
 refine F2 [] Tryz.func279 ?_
 refine I5 (B4z l hl g cs p st hg) ?_
 refine ⟨?_,rfl⟩
 rw [←A1z];rfl
theorem B4n (l:List Ab.Item) (hl:l.length≤9223372036854775807) (g:FuncId) (cs:List AV) (p:Ab.Item→Bool) (st:St)
  (hg:∀ x,x∈l→S P g (E5 x::cs) st fun v st'=>v=.bool (p x)∧st'=st) :
  S P 175 [A8 4 E5 l,.fn (.func g) [] cs] st fun v st'=>v=eI (idx p l)∧st'=st:=by
 refine F2 [] Tryz.func175 ?_
 refine ⟨[0,1,7,8],fun m vs st'=>∃ i:Nat,i≤l.length∧(∀ k,k<i→p (l.getD k default)=false)∧m=l.length - i∧vs=[A8 4 E5 l,.fn (.func g) [] cs,eI l.length,eI i]∧st'=st,?_,?_⟩
 ·conv=>whnf
  exact ⟨_,0,D6e _,fun k hk=>absurd hk (by omega),rfl,rfl,rfl⟩
 ·rintro m vs st' ⟨i,hi,hok,rfl,rfl,rfl⟩
  conv=>whnf
  cases h:decide ((i:Int)<(l.length:Int))
  ·have:=D5G h
   conv=>whnf
   refine ⟨?_,rfl⟩
   rw [U1 fun k hk=>hok k (by omega)];rfl
  ·have hi':i<l.length:=by have:=D5F h;omega
   conv=>whnf
   refine E7 ?_
   refine B3 (hg (l.getD (i:Int).toNat default) (by simp [hi'])) ?_
   rw [D5P]
   cases hp:p (l.getD i default)
   ·conv=>whnf
    refine F7 ?_
    refine ⟨l.length - (i+1),by omega,i+1,by omega,fun k hk=>?_,rfl,by rw [B4 (by omega)],rfl⟩
    rcases D6y.1 hk with h' | h'
    ·exact hok k h'
    ·rw [h'];exact hp
   ·conv=>whnf
    refine ⟨?_,rfl⟩
    rw [A1A hi' hok hp];rfl
theorem B6U (l:List C8) (hl:l.length≤9223372036854775807) (v:C8) (st:St) :
  S P 268 [C9 l,eS v] st fun r st'=>r=eI (idx (fun y:C8=>v.toList==y.toList) l)∧st'=st:=by
 refine F2 [] Tryz.func268 ?_
 refine ⟨[0,1,7,8],fun m vs st'=>∃ i:Nat,i≤l.length∧(∀ k,k<i→(v.toList==(l.getD k default).toList)=false)∧m=l.length - i∧vs=[C9 l,eS v,eI l.length,eI i]∧st'=st,?_,?_⟩
 ·conv=>whnf
  exact ⟨_,0,D6e _,fun k hk=>absurd hk (by omega),rfl,rfl,rfl⟩
 ·rintro m vs st' ⟨i,hi,hok,rfl,rfl,rfl⟩
  conv=>whnf
  cases h:decide ((i:Int)<(l.length:Int))
  ·have:=D5G h
   conv=>whnf
   refine ⟨?_,rfl⟩
   rw [U1 (p:=fun y:C8=>v.toList==y.toList) fun k hk=>hok k (by omega)];rfl
  ·have hi':i<l.length:=by have:=D5F h;omega
   conv=>whnf
   refine ⟨rfl,⟨by omega,by omega⟩,?_⟩
   rw [D5P];conv=>whnf
   cases hp:(v.toList==(l.getD i default).toList)
   ·conv=>whnf
    refine F7 ?_
    refine ⟨l.length - (i+1),by omega,i+1,by omega,fun k hk=>?_,rfl,by rw [B4 (by omega)],rfl⟩
    rcases D6y.1 hk with h' | h'
    ·exact hok k h'
    ·rw [h'];exact hp
   ·conv=>whnf
    refine ⟨?_,rfl⟩
    rw [A1A (p:=fun y:C8=>v.toList==y.toList) hi' hok hp];rfl
theorem C4C (l:List C8) (hl:l.length≤9223372036854775807) (v:C8) (st:St) :
  S P 231 [C9 l,eS v] st fun r st'=>r=.bool (l.any fun y:C8=>v.toList==y.toList)∧st'=st:=by
 refine F2 [] Tryz.func231 ?_
 refine I5 (B6U l hl v st) ?_
 refine ⟨?_,rfl⟩
 rw [←A1z];rfl
theorem B5K (l:List Int) (hl:l.length≤9223372036854775807) (v:Int) (st:St) :
  S P 283 [B0 l,eI v] st fun r st'=>r=eI (idx (fun y:Int=>v==y) l)∧st'=st:=by
 refine F2 [] Tryz.func283 ?_
 refine ⟨[0,1,7,8],fun m vs st'=>∃ i:Nat,i≤l.length∧(∀ k,k<i→(v==l.getD k default)=false)∧m=l.length - i∧vs=[B0 l,eI v,eI l.length,eI i]∧st'=st,?_,?_⟩
 ·conv=>whnf
  exact ⟨_,0,D6e _,fun k hk=>absurd hk (by omega),rfl,rfl,rfl⟩
 ·rintro m vs st' ⟨i,hi,hok,rfl,rfl,rfl⟩
  conv=>whnf
  cases h:decide ((i:Int)<(l.length:Int))
  ·have:=D5G h
   conv=>whnf
   refine ⟨?_,rfl⟩
   rw [U1 (p:=fun y:Int=>v==y) fun k hk=>hok k (by omega)];rfl
  ·have hi':i<l.length:=by have:=D5F h;omega
   conv=>whnf
   refine ⟨rfl,⟨by omega,by omega⟩,?_⟩
   rw [D5P];conv=>whnf
   cases hp:(v==l.getD i default)
   ·conv=>whnf
    refine F7 ?_
    refine ⟨l.length - (i+1),by omega,i+1,by omega,fun k hk=>?_,rfl,by rw [B4 (by omega)],rfl⟩
    rcases D6y.1 hk with h' | h'
    ·exact hok k h'
    ·rw [h'];exact hp
   ·conv=>whnf
    refine ⟨?_,rfl⟩
    rw [A1A (p:=fun y:Int=>v==y) hi' hok hp];rfl
theorem C3j (l:List Int) (hl:l.length≤9223372036854775807) (v:Int) (st:St) :
  S P 250 [B0 l,eI v] st fun r st'=>r=.bool (l.any fun y:Int=>v==y)∧st'=st:=by
 refine F2 [] Tryz.func250 ?_
 refine I5 (B5K l hl v st) ?_
 refine ⟨?_,rfl⟩
 rw [←A1z];rfl
theorem B4v (l:List C8) (hl:l.length≤9223372036854775807) (v:C8) (st:St) :
  S P 343 [C9 l,eS v] st fun r st'=>r=eI (idx (fun y:C8=>v.toList==y.toList) l)∧st'=st:=by
 refine F2 [] Tryz.func343 ?_
 refine ⟨[0,1,7,8],fun m vs st'=>∃ i:Nat,i≤l.length∧(∀ k,k<i→(v.toList==(l.getD k default).toList)=false)∧m=l.length - i∧vs=[C9 l,eS v,eI l.length,eI i]∧st'=st,?_,?_⟩
 ·conv=>whnf
  exact ⟨_,0,D6e _,fun k hk=>absurd hk (by omega),rfl,rfl,rfl⟩
 ·rintro m vs st' ⟨i,hi,hok,rfl,rfl,rfl⟩
  conv=>whnf
  cases h:decide ((i:Int)<(l.length:Int))
  ·have:=D5G h
   conv=>whnf
   refine ⟨?_,rfl⟩
   rw [U1 (p:=fun y:C8=>v.toList==y.toList) fun k hk=>hok k (by omega)];rfl
  ·have hi':i<l.length:=by have:=D5F h;omega
   conv=>whnf
   refine ⟨rfl,⟨by omega,by omega⟩,?_⟩
   rw [D5P];conv=>whnf
   cases hp:(v.toList==(l.getD i default).toList)
   ·conv=>whnf
    refine F7 ?_
    refine ⟨l.length - (i+1),by omega,i+1,by omega,fun k hk=>?_,rfl,by rw [B4 (by omega)],rfl⟩
    rcases D6y.1 hk with h' | h'
    ·exact hok k h'
    ·rw [h'];exact hp
   ·conv=>whnf
    refine ⟨?_,rfl⟩
    rw [A1A (p:=fun y:C8=>v.toList==y.toList) hi' hok hp];rfl
theorem C0U (l:List C8) (hl:l.length≤9223372036854775807) (v:C8) (st:St) :
  S P 333 [C9 l,eS v] st fun r st'=>r=.bool (l.any fun y:C8=>v.toList==y.toList)∧st'=st:=by
 refine F2 [] Tryz.func333 ?_
 refine I5 (B4v l hl v st) ?_
 refine ⟨?_,rfl⟩
 rw [←A1z];rfl
theorem C0W (s:C8) (st:St):S P 331 [eS s] st fun v st'=>v=.bool (!D0 s)∧st'=st:=by
 refine F2 [] Tryz.func331 ?_
 refine I5 (A2F s st) ?_
 exact ⟨rfl,rfl⟩
def A0Q (l:List C8):Bool:=A0q l&&!(l.any fun s=>!D0 s)
theorem B9B (l:List C8) (hl:l.length≤9223372036854775807) (st:St):S P 309 [C9 l] st fun v st'=>v=.bool (decide (l.length≤20)&&A0Q l)∧st'=st:=by
 refine F2 [] Tryz.func309 ?_
 cases h:decide ((l.length:Int)≤20)
 ·have g:=D5G h
  conv=>whnf
  refine ⟨?_,rfl⟩
  rw [D5J (show ¬ l.length≤20 by omega)];rfl
 ·have g:=D5F h
  have e:decide (l.length≤20)=true:=D6m (by omega)
  conv=>whnf
  refine B3 (B1R l hl st) ?_
  unfold A0Q
  cases hr:A0q l
  ·conv=>whnf
   exact ⟨by rw [e];rfl,rfl⟩
  ·conv=>whnf
   refine I5 (B7W l hl _ [] (fun s=>!D0 s) st fun x _=>C0W x st) ?_
   exact ⟨by rw [e];rfl,rfl⟩
def A0r (s:V9):Bool:=(decide (s.skus.length≤20)&&A0Q s.skus)&&(decide (s.cats.length≤20)&&A0Q s.cats)
theorem B9N (s:V9) (h1:s.skus.length≤9223372036854775807) (h2:s.cats.length≤9223372036854775807) (st:St):S P 281 [A3U s] st fun v st'=>v=.bool (A0r s)∧st'=st:=by
 refine F2 [1] Tryz.func281 ?_
 refine B3 (B9B _ h1 st) ?_
 unfold A0r
 cases hr:(decide (s.skus.length≤20)&&A0Q s.skus)
 ·conv=>whnf
  exact ⟨rfl,rfl⟩
 ·conv=>whnf
  refine I5 (B9B _ h2 st) ?_
  exact ⟨rfl,rfl⟩
end Go.Proofs.YtaapofnkmpiknaaGreat
namespace Go.Ab
open Go
theorem A1L (x:Int):x.fdiv (2 ^ min (Int.toNat 32) IntKind.u64.bits)=x / 4294967296:=by
 show x.fdiv 4294967296=_
 exact D6v x (by decide)
theorem C3s (x:Int):IntKind.u64.wrap ↑(BitVec.ofInt IntKind.u64.bits x &&& BitVec.ofInt IntKind.u64.bits 4294967295).toNat=x % 4294967296:=by
 have h1:(BitVec.ofInt IntKind.u64.bits x &&& BitVec.ofInt IntKind.u64.bits 4294967295).toNat=(x % 18446744073709551616).toNat % 4294967296:=by
  show (BitVec.ofInt 64 x &&& BitVec.ofInt 64 4294967295).toNat=_
  rw [BitVec.toNat_and,BitVec.toNat_ofInt,BitVec.toNat_ofInt]
  have:(4294967295 % ((2 ^ 64:Nat):Int)).toNat=2 ^ 32 - 1:=by decide
  rw [this,Nat.and_two_pow_sub_one_eq_mod]
  rfl
 rw [h1]
 show (((x % 18446744073709551616).toNat % 4294967296:Nat):Int) % 18446744073709551616=_
 omega
theorem xy4 (x y:Int):x * y=(x / 4294967296 * (y / 4294967296)) * 18446744073709551616+(x / 4294967296 * (y % 4294967296)) * 4294967296+(x % 4294967296 * (y / 4294967296)) * 4294967296+x % 4294967296 * (y % 4294967296):=by
 have hx:=D6M x 4294967296
 have hy:=D6M y 4294967296
 generalize x / 4294967296=a at *
 generalize x % 4294967296=b at *
 generalize y / 4294967296=c at *
 generalize y % 4294967296=d at *
 subst hx hy
 rw [D8j,D7J,D7J]
 have e1:4294967296 * a * (4294967296 * c)=a * c * 18446744073709551616:=by
  rw [D8y,←D8y a,D7S a 4294967296,D8y,←D8y];omega
 have e2:4294967296 * a * d=a * d * 4294967296:=by rw [D8y,D7S]
 have e3:b * (4294967296 * c)=b * c * 4294967296:=by rw [D7S 4294967296 c,D8y]
 omega
theorem C5V {a b:Int} (ha:0≤a) (ha':a≤4294967295) (hb:0≤b) (hb':b≤4294967295):0≤a * b∧a * b≤18446744065119617025 :=
 ⟨D7d ha hb,D8z (D8b ha' hb' hb (by decide)) (by decide)⟩
end Go.Ab
namespace Go.Proofs.YtaapofnkmpiknaaGreat
open Go Go.Ab
attribute [local irreducible] upd del
theorem B9z (x y:Int) (hx:0≤x∧x<18446744073709551616) (hy:0≤y∧y<18446744073709551616) (st:St):S P 205 [.int .u64 x,.int .u64 y] st fun v st'=>v=.tuple [.int .u64 (x * y / 18446744073709551616),.int .u64 (x * y % 18446744073709551616)]∧st'=st:=by
 refine F2 [] Tryz.func205 ?_
 refine ⟨?_,rfl⟩
 have h4:=xy4 x y
 simp only [A1L,C3s,B0c]
 have b1:=C5V (a:=x / 4294967296) (b:=y / 4294967296) (by omega) (by omega) (by omega) (by omega)
 have b2:=C5V (a:=x / 4294967296) (b:=y % 4294967296) (by omega) (by omega) (by omega) (by omega)
 have b3:=C5V (a:=x % 4294967296) (b:=y / 4294967296) (by omega) (by omega) (by omega) (by omega)
 have b4:=C5V (a:=x % 4294967296) (b:=y % 4294967296) (by omega) (by omega) (by omega) (by omega)
 have e1:IntKind.u64.wrap (x * y)=x * y % 18446744073709551616:=rfl
 rw [e1]
 generalize x / 4294967296 * (y / 4294967296)=p1 at *
 generalize x / 4294967296 * (y % 4294967296)=p2 at *
 generalize x % 4294967296 * (y / 4294967296)=p3 at *
 generalize x % 4294967296 * (y % 4294967296)=p4 at *
 generalize x * y=p at *
 have w:∀ z:Int,IntKind.u64.wrap z=z % 18446744073709551616:=fun _=>rfl
 simp only [w]
 congr 3
 congr 1
 omega
theorem B5 {x:Int} (h1:0≤x) (h2:x<18446744073709551616):IntKind.u64.wrap x=x:=by
 have w:IntKind.u64.wrap x=x % 18446744073709551616:=rfl
 rw [w];omega
def B0M (n:Nat) (x:Int):Prop:=x<2 ^ n∧(n=0∨(2:Int) ^ (n - 1)≤x)
def C7r (tab:C8):Bool:=decide (256≤tab.size)&&(List.range 256).all fun c=>Nat.ble (chr tab c).toNat 8&&Nat.blt c (2 ^ (chr tab c).toNat)&&(Nat.beq (chr tab c).toNat 0||Nat.ble (2 ^ ((chr tab c).toNat - 1)) c)
theorem A2v {tab:C8} {j:Int} {k:AV→Prop} (y:Nat) (hy:j=y) (hlt:y<256) (htab:C7r tab=true)
  (hk:∀ t:Nat,t≤8→B0M t y→k (.int .u8 t)):C8M tab j k:=by
 unfold C7r at htab
 rw [D5I] at htab
 obtain ⟨h1,h2⟩:=htab
 have h1:=D5F h1
 have h3:=D5Y.1 h2 y (D5S.2 hlt)
 simp only [D5I,D6K,Nat.ble_eq,D8p,Nat.beq_eq] at h3
 obtain ⟨⟨h4,h5⟩,h6⟩:=h3
 refine C5O (i:=y) hy (by omega) ?_
 have hc:chr tab y=((chr tab y).toNat:Int):=by
  have:0≤chr tab y:=by unfold chr;split<;>omega
  omega
 rw [hc]
 refine hk _ h4 ⟨?_,?_⟩
 ·exact_mod_cast h5
 ·rcases h6 with h6 | h6
  ·exact .inl h6
  ·right;exact_mod_cast h6
theorem A0k {b t:Nat} {x y:Int} (hy:y=x / 2 ^ b) (ht:B0M t y) (h0:b=0∨0<y):B0M (b+t) x:=by
 obtain ⟨h1,h2⟩:=ht
 have hp:(0:Int)<2 ^ b:=Int.pow_pos (by decide)
 have hm:=D6M x (2 ^ b)
 have hl:=D6N x hp
 have hn:=D7a x (Int.ne_of_gt hp)
 rw [←hy] at hm
 refine ⟨?_,?_⟩
 ·rw [Int.pow_add]
  have:(2:Int) ^ b * (y+1)≤2 ^ b * 2 ^ t:=D6A (by omega) (D7K hp)
  rw [D7J,D8r] at this
  omega
 ·rcases h2 with h2 | h2
  ·rcases h0 with h0 | h0
   ·left;omega
   ·subst h2;simp at h1;omega
  ·rcases D7b t with ht | ht
   ·subst ht
    simp at h1 h2
    omega
   ·right
    rw [show b+t - 1=b+(t - 1) by omega,Int.pow_add]
    have:(2:Int) ^ b * 2 ^ (t - 1)≤2 ^ b * y:=D6A h2 (D7K hp)
    omega
theorem A2Q (x:Int):x.fdiv (2 ^ min (Int.toNat 16) IntKind.u64.bits)=x / 65536:=by
 show x.fdiv 65536=_
 exact D6v x (by decide)
theorem A7d (x:Int):x.fdiv (2 ^ min (Int.toNat 8) IntKind.u64.bits)=x / 256:=by
 show x.fdiv 256=_
 exact D6v x (by decide)
theorem A6u (x:Int):IntKind.u8.wrap x=x % 256:=rfl
theorem C5R (x:Int) (hx:0≤x∧x<18446744073709551616) (st:St):S P 284 [.int .u64 x] st fun v st'=>(∃ n:Nat,v=eI n∧n≤64∧B0M n x)∧st'=st:=by
 refine F2 [] Tryz.func284 ?_
 refine B8 (fun ha=>?_) (fun ha=>?_)<;>rw [ha]<;>(conv=>whnf)<;>refine B8 (fun hb=>?_) (fun hb=>?_)<;>rw [hb]<;>(conv=>whnf)<;>refine B8 (fun hc=>?_) (fun hc=>?_)<;>rw [hc]<;>(conv=>whnf)<;>have hh:=And.intro ha (And.intro hb hc)<;>clear ha hb hc
 ·simp only [A1L,A2Q,A7d,D5E,D5D,ge_iff_le] at hh
  refine A2v (x / 72057594037927936).toNat ?_ ?_ (by kernel_rfl) (fun t ht hb=>?_)
  ·simp only [A1L,A2Q,A7d,A6u];omega
  ·omega
  ·rw [D7v (by omega)] at hb;conv=>whnf
   refine ⟨⟨56+t,?_,by omega,A0k (b:=56) (y:=x / 72057594037927936) rfl hb (by omega)⟩,rfl⟩
   show AV.int .i64 _=AV.int .i64 _
   congr 1
   simp only [IntKind.wrap_i64]
   omega
 ·simp only [A1L,A2Q,A7d,D5E,D5D,ge_iff_le] at hh
  refine A2v (x / 281474976710656).toNat ?_ ?_ (by kernel_rfl) (fun t ht hb=>?_)
  ·simp only [A1L,A2Q,A7d,A6u];omega
  ·omega
  ·rw [D7v (by omega)] at hb;conv=>whnf
   refine ⟨⟨48+t,?_,by omega,A0k (b:=48) (y:=x / 281474976710656) rfl hb (by omega)⟩,rfl⟩
   show AV.int .i64 _=AV.int .i64 _
   congr 1
   simp only [IntKind.wrap_i64]
   omega
 ·simp only [A1L,A2Q,A7d,D5E,D5D,ge_iff_le] at hh
  refine A2v (x / 1099511627776).toNat ?_ ?_ (by kernel_rfl) (fun t ht hb=>?_)
  ·simp only [A1L,A2Q,A7d,A6u];omega
  ·omega
  ·rw [D7v (by omega)] at hb;conv=>whnf
   refine ⟨⟨40+t,?_,by omega,A0k (b:=40) (y:=x / 1099511627776) rfl hb (by omega)⟩,rfl⟩
   show AV.int .i64 _=AV.int .i64 _
   congr 1
   simp only [IntKind.wrap_i64]
   omega
 ·simp only [A1L,A2Q,A7d,D5E,D5D,ge_iff_le] at hh
  refine A2v (x / 4294967296).toNat ?_ ?_ (by kernel_rfl) (fun t ht hb=>?_)
  ·simp only [A1L,A2Q,A7d,A6u];omega
  ·omega
  ·rw [D7v (by omega)] at hb;conv=>whnf
   refine ⟨⟨32+t,?_,by omega,A0k (b:=32) (y:=x / 4294967296) rfl hb (by omega)⟩,rfl⟩
   show AV.int .i64 _=AV.int .i64 _
   congr 1
   simp only [IntKind.wrap_i64]
   omega
 ·simp only [A1L,A2Q,A7d,D5E,D5D,ge_iff_le] at hh
  refine A2v (x / 16777216).toNat ?_ ?_ (by kernel_rfl) (fun t ht hb=>?_)
  ·simp only [A1L,A2Q,A7d,A6u];omega
  ·omega
  ·rw [D7v (by omega)] at hb;conv=>whnf
   refine ⟨⟨24+t,?_,by omega,A0k (b:=24) (y:=x / 16777216) rfl hb (by omega)⟩,rfl⟩
   show AV.int .i64 _=AV.int .i64 _
   congr 1
   simp only [IntKind.wrap_i64]
   omega
 ·simp only [A1L,A2Q,A7d,D5E,D5D,ge_iff_le] at hh
  refine A2v (x / 65536).toNat ?_ ?_ (by kernel_rfl) (fun t ht hb=>?_)
  ·simp only [A1L,A2Q,A7d,A6u];omega
  ·omega
  ·rw [D7v (by omega)] at hb;conv=>whnf
   refine ⟨⟨16+t,?_,by omega,A0k (b:=16) (y:=x / 65536) rfl hb (by omega)⟩,rfl⟩
   show AV.int .i64 _=AV.int .i64 _
   congr 1
   simp only [IntKind.wrap_i64]
   omega
 ·simp only [A1L,A2Q,A7d,D5E,D5D,ge_iff_le] at hh
  refine A2v (x / 256).toNat ?_ ?_ (by kernel_rfl) (fun t ht hb=>?_)
  ·simp only [A1L,A2Q,A7d,A6u];omega
  ·omega
  ·rw [D7v (by omega)] at hb;conv=>whnf
   refine ⟨⟨8+t,?_,by omega,A0k (b:=8) (y:=x / 256) rfl hb (by omega)⟩,rfl⟩
   show AV.int .i64 _=AV.int .i64 _
   congr 1
   simp only [IntKind.wrap_i64]
   omega
 ·simp only [A1L,A2Q,A7d,D5E,D5D,ge_iff_le] at hh
  refine A2v (x / 1).toNat ?_ ?_ (by kernel_rfl) (fun t ht hb=>?_)
  ·simp only [A1L,A2Q,A7d,A6u];omega
  ·omega
  ·rw [D7v (by omega)] at hb;conv=>whnf
   refine ⟨⟨0+t,?_,by omega,A0k (b:=0) (y:=x / 1) rfl hb (by omega)⟩,rfl⟩
   show AV.int .i64 _=AV.int .i64 _
   congr 1
   simp only [IntKind.wrap_i64]
   omega
theorem C3n (x:Int) (hx:0≤x∧x<18446744073709551616) (st:St):S P 251 [.int .u64 x] st fun v st'=>(∃ n:Nat,v=eI ((64 - n:Nat):Int)∧n≤64∧B0M n x)∧st'=st:=by
 refine F2 [] Tryz.func251 ?_
 refine call (C5R x hx st) (fun v st' hv=>?_)
 obtain ⟨⟨n,rfl,hn,hb⟩,rfl⟩:=hv
 conv=>whnf
 refine ⟨⟨n,?_,hn,hb⟩,rfl⟩
 show AV.int .i64 _=AV.int .i64 _
 congr 1
 rw [IntKind.wrap_i64]
 omega
end Go.Proofs.YtaapofnkmpiknaaGreat
namespace Go.Ab
open Go
structure A7e (u n y1 y0 q r:Int):Prop where
 hu:u=q * y1+r
 hr:0≤r
 hq:(u * 4294967296+n) / (y1 * 4294967296+y0)≤q
 h0:0≤q
theorem B3i {u n y1 y0 q r:Int} (h:u=q * y1+r):u * 4294967296+n - q * (y1 * 4294967296+y0)=r * 4294967296+n - q * y0:=by
 subst h
 have e1:(q * y1+r) * 4294967296=q * y1 * 4294967296+r * 4294967296:=by omega
 have e2:q * (y1 * 4294967296+y0)=q * y1 * 4294967296+q * y0:=by rw [D7J,←D8y]
 omega
theorem C2W {u n y1 y0 q r:Int} (hy:0<y1 * 4294967296+y0) (h:u=q * y1+r) (hg:q * y0≤r * 4294967296+n):q≤(u * 4294967296+n) / (y1 * 4294967296+y0):=by
 have:=B3i (n:=n) (y0:=y0) h
 exact (Int.le_ediv_iff_mul_le hy).2 (by omega)
theorem A8e {u n y1 y0 q r:Int} (hy:0<y1 * 4294967296+y0) (h:u=q * y1+r) (hg:r * 4294967296+n<q * y0):(u * 4294967296+n) / (y1 * 4294967296+y0)<q:=by
 have:=B3i (n:=n) (y0:=y0) h
 exact (D7g hy).2 (by omega)
theorem A3G {u n y1 y0:Int} (hu:0≤u) (hn:0≤n) (hn':n<4294967296) (h1:2147483648≤y1) (h0:0≤y0) (h0':y0<4294967296) (hl:u<y1 * 4294967296+y0) :
  A7e u n y1 y0 (u / y1) (u - u / y1 * y1)∧u - u / y1 * y1<y1∧u / y1≤4294967297:=by
 have hm:=D6M u y1
 have hr:=D7a u (show y1≠0 by omega)
 have hr':=D6N u (show 0<y1 by omega)
 have hq:0≤u / y1:=D7l hu (by omega)
 have e:u - u / y1 * y1=u % y1:=by rw [D7S];omega
 refine ⟨⟨by omega,by omega,?_,hq⟩,by omega,?_⟩
 ·refine Int.le_of_lt_add_one ((D7g (by omega)).2 ?_)
  have a1:(u / y1+1) * (y1 * 4294967296)≤(u / y1+1) * (y1 * 4294967296+y0):=D6A (by omega) (by omega)
  have a2:(u / y1+1) * (y1 * 4294967296)=(y1 * (u / y1)+y1) * 4294967296:=by
   rw [←D8y,D8j,Int.one_mul,D7S y1]
  have a3:u+1≤y1 * (u / y1)+y1:=by omega
  omega
 ·refine Int.le_of_lt_add_one ((D7g (by omega)).2 ?_)
  have:(4294967297+1) * y1=y1 * 4294967296+2 * y1:=by omega
  omega
theorem A7e.step {u n y1 y0 q r:Int} (h:A7e u n y1 y0 q r) (hy1:0≤y1) (hg:(u * 4294967296+n) / (y1 * 4294967296+y0)<q) (hp:0≤(u * 4294967296+n) / (y1 * 4294967296+y0)):A7e u n y1 y0 (q - 1) (r+y1):=by
 obtain ⟨a,b,c,d⟩:=h
 refine ⟨?_,by omega,by omega,by omega⟩
 rw [Int.sub_mul,Int.one_mul];omega
theorem A7e.stop {u n y1 y0 q r:Int} (h:A7e u n y1 y0 q r) (hy:0<y1 * 4294967296+y0) (hg:q * y0≤r * 4294967296+n):q=(u * 4294967296+n) / (y1 * 4294967296+y0) :=
 Int.le_antisymm (C2W hy h.hu hg) h.hq
theorem B8P {U L Y:Int} (hY:0<Y) (hL:0≤L) :
  let q1:=(U * 4294967296+L / 4294967296) / Y
  let V:=(U * 4294967296+L / 4294967296) % Y
  let q0:=(V * 4294967296+L % 4294967296) / Y
  q1 * 4294967296+q0=(U * 18446744073709551616+L) / Y∧(V * 4294967296+L % 4294967296) % Y=(U * 18446744073709551616+L) % Y:=by
 intro q1 V q0
 have h1:Y * q1+V=U * 4294967296+L / 4294967296:=D6M _ Y
 have h2:Y * q0+(V * 4294967296+L % 4294967296) % Y=V * 4294967296+L % 4294967296:=D6M _ Y
 have h3:=D7a (V * 4294967296+L % 4294967296) (Int.ne_of_gt hY)
 have h4:=D6N (V * 4294967296+L % 4294967296) hY
 have h5:U * 18446744073709551616+L=(V * 4294967296+L % 4294967296) % Y+Y * (q1 * 4294967296+q0):=by
  rw [D7J,←D8y]
  omega
 rw [h5]
 constructor
 ·rw [Int.add_mul_ediv_left _ _ (Int.ne_of_gt hY),Int.ediv_eq_zero_of_lt h3 h4,Int.zero_add]
 ·rw [Int.add_mul_emod_self_left,Int.emod_emod]
theorem C1E {lo:Int} {s:Nat} (hs:s≤64):lo * 2 ^ s=(lo / 2 ^ (64 - s)) * 18446744073709551616+lo * 2 ^ s % 18446744073709551616:=by
 have e:(18446744073709551616:Int)=2 ^ (64 - s) * 2 ^ s:=by rw [←Int.pow_add,show 64 - s+s=64 by omega];rfl
 have hp:(0:Int)<2 ^ s:=Int.pow_pos (by decide)
 have:=D6M (lo * 2 ^ s) 18446744073709551616
 have h2:lo * 2 ^ s / 18446744073709551616=lo / 2 ^ (64 - s):=by
  rw [e,Int.mul_ediv_mul_of_pos_left _ _ hp]
 rw [h2] at this
 omega
theorem C8u {N y:Int} {s:Nat} (hy:0<y):N * 2 ^ s / (y * 2 ^ s)=N / y∧N * 2 ^ s % (y * 2 ^ s) / 2 ^ s=N % y:=by
 have hp:(0:Int)<2 ^ s:=Int.pow_pos (by decide)
 refine ⟨Int.mul_ediv_mul_of_pos_left _ _ hp,?_⟩
 rw [D7S N,D7S y,Int.mul_emod_mul_of_pos _ _ hp,Int.mul_ediv_cancel_left _ (Int.ne_of_gt hp)]
theorem C8j {a b:Int} {s:Nat} (ha:0≤a) (hb:0≤b) (hb':b<2 ^ s) (hab:a * 2 ^ s+b<18446744073709551616) :
  IntKind.u64.wrap ↑(BitVec.ofInt IntKind.u64.bits (a * 2 ^ s) ||| BitVec.ofInt IntKind.u64.bits b).toNat=a * 2 ^ s+b:=by
 obtain ⟨A,rfl⟩:=Int.eq_ofNat_of_zero_le ha
 obtain ⟨B,rfl⟩:=Int.eq_ofNat_of_zero_le hb
 have e1:((A:Int) * 2 ^ s)=((A * 2 ^ s:Nat):Int):=by rw [Int.natCast_mul,Int.natCast_pow];rfl
 have hB:B<2 ^ s:=by exact_mod_cast hb'
 have hA:A * 2 ^ s+B<18446744073709551616:=by rw [e1] at hab;generalize A * 2 ^ s=C at *;omega
 have h1:(BitVec.ofInt IntKind.u64.bits ((A:Int) * 2 ^ s) ||| BitVec.ofInt IntKind.u64.bits (B:Int)).toNat=A * 2 ^ s+B:=by
  rw [e1]
  show (BitVec.ofInt 64 ((A * 2 ^ s:Nat):Int) ||| BitVec.ofInt 64 (B:Int)).toNat=_
  rw [BitVec.ofInt_natCast,BitVec.ofInt_natCast,BitVec.toNat_or,BitVec.toNat_ofNat,BitVec.toNat_ofNat,D8E (by omega),D8E (by omega)]
  rw [←Nat.shiftLeft_eq,Nat.shiftLeft_add_eq_or_of_lt hB]
 rw [h1]
 have w:∀ z:Int,IntKind.u64.wrap z=z % 18446744073709551616:=fun _=>rfl
 rw [w,e1]
 omega
theorem R8 {U n Y q:Int} (hY:0<Y) (hY':Y<18446744073709551616) (hq:q=(U * 4294967296+n) / Y) :
  IntKind.u64.wrap (IntKind.u64.wrap (IntKind.u64.wrap (U * 4294967296)+n) - IntKind.u64.wrap (q * Y))=(U * 4294967296+n) % Y:=by
 have w:∀ z:Int,IntKind.u64.wrap z=z % 18446744073709551616:=fun _=>rfl
 have h1:=D6M (U * 4294967296+n) Y
 rw [←hq,D7S] at h1
 have h2:=D7a (U * 4294967296+n) (Int.ne_of_gt hY)
 have h3:=D6N (U * 4294967296+n) hY
 simp only [w]
 omega
end Go.Ab
namespace Go.Proofs.YtaapofnkmpiknaaGreat
open Go Go.Ab
attribute [local irreducible] upd del
set_option maxHeartbeats 2000000 in
theorem B9k (hi lo y:Int) (hh:0≤hi) (hl:0≤lo) (hl':lo<18446744073709551616) (hy:hi<y) (hy':y<18446744073709551616) (st:St) :
  S P 206 [.int .u64 hi,.int .u64 lo,.int .u64 y] st fun v st'=>v=.tuple [.int .u64 ((hi * 18446744073709551616+lo) / y),.int .u64 ((hi * 18446744073709551616+lo) % y)]∧st'=st:=by
 refine F2 [] Tryz.func206 ?_
 refine B8 (fun h=>?_) (fun h=>?_)
 ·simp at h;omega
 rw [h];conv=>whnf
 refine B8 (fun h=>?_) (fun h=>?_)
 ·simp at h;omega
 rw [h];conv=>whnf
 refine B8 (fun h=>?_) (fun h=>?_)
 ·rw [h];conv=>whnf
  refine ⟨[],[],[0,1,2,3,4,5,6,7],by kernel_rfl,?_⟩
  have hy0:decide (y=0)=false:=D5J (by omega)
  conv=>whnf
  rw [hy0];conv=>whnf
  rw [hy0];conv=>whnf
  have h0:hi=0:=by simpa using h
  have hq:0≤lo / y:=D7l hl (by omega)
  have hq':lo / y≤lo:=Int.ediv_le_self _ hl
  refine ⟨?_,rfl⟩
  show AV.tuple [AV.int .u64 _,AV.int .u64 _]=_
  rw [h0,D8C,Int.zero_add,D6Y hl,D7q hl,B5 hq (by omega)]
 ·rw [h];conv=>whnf
  refine call (C3n y ⟨by omega,hy'⟩ st) (fun v st' hv=>?_)
  obtain ⟨⟨n,rfl,hn,hb1,hb2⟩,rfl⟩:=hv
  have hn1:1≤n:=by
   rcases D7b n with e | e
   ·subst e;simp at hb1;omega
   ·exact e
  have hb3:(2:Int) ^ (n - 1)≤y:=by rcases hb2 with e | e;omega;exact e
  generalize hs:64 - n=s
  have hs1:s≤63:=by omega
  have hsn:n=64 - s:=by omega
  have hp:(0:Int)<2 ^ s:=Int.pow_pos (by decide)
  have wS:IntKind.u64.wrap (s:Int)=(s:Int):=B5 (by omega) (by omega)
  have wM:min (s:Int).toNat IntKind.u64.bits=s:=by rw [D5P];show min s 64=s;omega
  have hY1:y * 2 ^ s<18446744073709551616:=by
   have:y * 2 ^ s<2 ^ n * 2 ^ s:=Int.mul_lt_mul_of_pos_right hb1 hp
   rw [←Int.pow_add,show n+s=64 by omega] at this
   exact this
  have hY2:9223372036854775808≤y * 2 ^ s:=by
   have:2 ^ (n - 1) * 2 ^ s≤y * 2 ^ s:=D7C hb3 (D7K hp)
   rw [←Int.pow_add,show n - 1+s=63 by omega] at this
   exact this
  have wY:IntKind.u64.wrap (y * 2 ^ s)=y * 2 ^ s:=B5 (by omega) hY1
  have w64:IntKind.u64.wrap (64 - (s:Int))=((64 - s:Nat):Int):=by rw [B5 (by omega) (by omega)];omega
  have wM2:min (((64 - s:Nat):Int)).toNat IntKind.u64.bits=64 - s:=by rw [D5P];show min (64 - s) 64=64 - s;omega
  have hH:hi * 2 ^ s<y * 2 ^ s:=Int.mul_lt_mul_of_pos_right hy hp
  have hH0:0≤hi * 2 ^ s:=D7d hh (D7K hp)
  have wH:IntKind.u64.wrap (hi * 2 ^ s)=hi * 2 ^ s:=B5 hH0 (by omega)
  have hp2:(0:Int)<2 ^ (64 - s):=Int.pow_pos (by decide)
  have wF:lo.fdiv (2 ^ (64 - s))=lo / 2 ^ (64 - s):=D6v lo (D7K hp2)
  have hT0:0≤lo / 2 ^ (64 - s):=D7l hl (D7K hp2)
  have hT:lo / 2 ^ (64 - s)<2 ^ s:=by
   refine (D7g hp2).2 ?_
   rw [←Int.pow_add,show s+(64 - s)=64 by omega];exact hl'
  have hU:hi * 2 ^ s+lo / 2 ^ (64 - s)<y * 2 ^ s:=by
   have:(hi+1) * 2 ^ s≤y * 2 ^ s:=D7C (by omega) (D7K hp)
   rw [D8j,Int.one_mul] at this
   omega
  have wO:=C8j (a:=hi) (b:=lo / 2 ^ (64 - s)) (s:=s) hh hT0 hT (by omega)
  conv=>whnf
  rw [wS,wM,wY,w64,D5J (show ¬((64 - s:Nat):Int)<0 by omega)];conv=>whnf
  rw [wH,wM2,wF,wO]
  rw [wM]
  have hsplit:=C1E (lo:=lo) (s:=s) (by omega)
  have wL:IntKind.u64.wrap (lo * 2 ^ s)=lo * 2 ^ s % 18446744073709551616:=rfl
  rw [wL]
  have hsc:=C8u (N:=hi * 18446744073709551616+lo) (y:=y) (s:=s) (by omega)
  have hL0:=D7a (lo * 2 ^ s) (show (18446744073709551616:Int)≠0 by decide)
  have hL1:=D6N (lo * 2 ^ s) (show (0:Int)<18446744073709551616 by decide)
  have hN:(hi * 18446744073709551616+lo) * 2 ^ s=(hi * 2 ^ s+lo / 2 ^ (64 - s)) * 18446744073709551616+lo * 2 ^ s % 18446744073709551616:=by
   rw [D8j,D8j,Int.mul_right_comm];omega
  rw [hN] at hsc
  have hU0:0≤hi * 2 ^ s+lo / 2 ^ (64 - s):=by omega
  have h2d:=B8P (U:=hi * 2 ^ s+lo / 2 ^ (64 - s)) (L:=lo * 2 ^ s % 18446744073709551616) (Y:=y * 2 ^ s) (by omega) hL0
  rw [hsc.1] at h2d
  clear wO wL hsplit hN
  generalize hi * 2 ^ s+lo / 2 ^ (64 - s)=U at *
  generalize lo * 2 ^ s % 18446744073709551616=L at *
  have hY1':y * 2 ^ s=y * 2 ^ s:=rfl
  generalize hYY:y * 2 ^ s=Y at *
  rw [A1L Y,C3s Y,A1L L,C3s L]
  clear wS w64 wM2 wH wF hH hT hT0 hH0 hp2 hY1' wY
  have eY:Y=Y / 4294967296 * 4294967296+Y % 4294967296:=by omega
  have a1:2147483648≤Y / 4294967296:=by omega
  have a1':Y / 4294967296≤4294967295:=by omega
  have a0:0≤Y % 4294967296:=by omega
  have a0':Y % 4294967296<4294967296:=by omega
  have b1:0≤L / 4294967296:=by omega
  have b1':L / 4294967296<4294967296:=by omega
  have b0:0≤L % 4294967296:=by omega
  have b0':L % 4294967296<4294967296:=by omega
  generalize Y / 4294967296=y1 at *
  generalize Y % 4294967296=y0 at *
  generalize L / 4294967296=n1 at *
  generalize L % 4294967296=n0 at *
  obtain ⟨d1,d2,d3⟩:=A3G hU0 b1 b1' a1 a0 a0' (show U<y1 * 4294967296+y0 by omega)
  have g0:0≤(U * 4294967296+n1) / (y1 * 4294967296+y0):=D7l (by omega) (by omega)
  have g1:(U * 4294967296+n1) / (y1 * 4294967296+y0)<4294967296:=(D7g (by omega)).2 (by omega)
  rw [D5J (show ¬ y1=0 by omega)];conv=>whnf
  have wq:IntKind.u64.wrap (U.tdiv y1)=U / y1:=by rw [D6Y hU0];exact B5 d1.h0 (by omega)
  rw [wq]
  have hq1:=d1.hu
  have hr1:=d1.hr
  have wm:IntKind.u64.wrap (U / y1 * y1)=U / y1 * y1:=B5 (D7d d1.h0 (by omega)) (by omega)
  rw [wm]
  have wr:IntKind.u64.wrap (U - U / y1 * y1)=U - U / y1 * y1:=B5 hr1 (by omega)
  rw [wr]
  generalize hqq:U / y1=q at *
  generalize hrr:U - q * y1=r at *
  have eB:∀ q':Int,0≤q'→q'≤4294967296→0≤q' * y0∧q' * y0≤4294967296 * y0:=fun q' h1 h2=>⟨D7d h1 a0,D7C h2 a0⟩
  clear wq wm wr hqq hrr hq1 hr1
  refine ⟨[2,8,9,10,11,13,14,15,16],fun m vs st''=>∃ q r:Int,A7e U n1 y1 y0 q r∧r<4294967296∧q≤4294967297∧m=q.toNat∧vs=[.int .u64 Y,.int .u64 s,.int .u64 y1,.int .u64 y0,.int .u64 U,.int .u64 n1,.int .u64 n0,.int .u64 q,.int .u64 r]∧st''=st',?_,?_⟩
  ·conv=>whnf
   exact ⟨_,q,r,d1,by omega,d3,rfl,rfl,rfl⟩
  clear d1 d2 d3
  rintro m vs st'' ⟨q,r,d1A,d2A,d3A,rfl,rfl,rfl⟩
  have G0A:=g0
  have hr0A:=d1A.hr
  have hq0A:=d1A.h0
  conv=>whnf
  cases hcA:decide (q≥4294967296)
  ·have hc'A:=D5G hcA
   obtain ⟨e1A,e2A⟩:=eB q hq0A (by omega)
   conv=>whnf
   rw [B5 (x:=q * y0) e1A (by omega),B5 (x:=4294967296 * r) (by omega) (by omega),B5 (x:=4294967296 * r+n1) (by omega) (by omega)]
   cases hdA:decide (q * y0>4294967296 * r+n1)
   ·have hd'A:=D5G hdA
    have EQA:q=(U * 4294967296+n1) / Y:=by rw [eY];exact d1A.stop (by omega) (by omega)
    conv=>whnf
    have eV:=R8 (Y:=Y) (by omega) hY1 EQA
    rw [eV]
    have hV0:=D7a (U * 4294967296+n1) (show Y≠0 by omega)
    have hV1:=D6N (U * 4294967296+n1) (show 0<Y by omega)
    clear eV
    dsimp only at h2d
    generalize (U * 4294967296+n1) % Y=V at *
    rw [D5J (show ¬ y1=0 by omega)];conv=>whnf
    obtain ⟨f1,f2,f3⟩:=A3G (u:=V) (n:=n0) hV0 b0 b0' a1 a0 a0' (by omega)
    have j0:0≤(V * 4294967296+n0) / (y1 * 4294967296+y0):=D7l (by omega) (by omega)
    have j1:(V * 4294967296+n0) / (y1 * 4294967296+y0)<4294967296:=(D7g (by omega)).2 (by omega)
    have wq:IntKind.u64.wrap (V.tdiv y1)=V / y1:=by rw [D6Y hV0];exact B5 f1.h0 (by omega)
    rw [wq]
    have hq1:=f1.hu
    have hr1:=f1.hr
    have wm:IntKind.u64.wrap (V / y1 * y1)=V / y1 * y1:=B5 (D7d f1.h0 (by omega)) (by omega)
    rw [wm]
    have wr:IntKind.u64.wrap (V - V / y1 * y1)=V - V / y1 * y1:=B5 hr1 (by omega)
    rw [wr]
    generalize V / y1=qs at *
    generalize V - qs * y1=rs at *
    clear wq wm wr hq1 hr1
    conv=>whnf
    refine ⟨[2,8,9,10,11,13,14,15,16,17,18],fun m vs st3=>∃ q2 r2:Int,A7e V n0 y1 y0 q2 r2∧r2<4294967296∧q2≤4294967297∧m=q2.toNat∧vs=[.int .u64 Y,.int .u64 s,.int .u64 y1,.int .u64 y0,.int .u64 U,.int .u64 n1,.int .u64 n0,.int .u64 q,.int .u64 r2,.int .u64 V,.int .u64 q2]∧st3=st'',?_,?_⟩
    ·conv=>whnf
     exact ⟨_,qs,rs,f1,by omega,f3,rfl,rfl,rfl⟩
    clear f1 f2 f3
    rintro m vs st3 ⟨q2,r2,d1B,d2B,d3B,rfl,rfl,rfl⟩
    have G0B:=j0
    have hr0B:=d1B.hr
    have hq0B:=d1B.h0
    conv=>whnf
    cases hcB:decide (q2≥4294967296)
    ·have hc'B:=D5G hcB
     obtain ⟨e1B,e2B⟩:=eB q2 hq0B (by omega)
     conv=>whnf
     rw [B5 (x:=q2 * y0) e1B (by omega),B5 (x:=4294967296 * r2) (by omega) (by omega),B5 (x:=4294967296 * r2+n0) (by omega) (by omega)]
     cases hdB:decide (q2 * y0>4294967296 * r2+n0)
     ·have hd'B:=D5G hdB
      have EQB:q2=(V * 4294967296+n0) / Y:=by rw [eY];exact d1B.stop (by omega) (by omega)
      conv=>whnf
      have eR:=R8 (U:=V) (n:=n0) (Y:=Y) (by omega) hY1 EQB
      conv=>whnf
      try rw [D5J (show ¬(s:Int)<0 by omega)]
      conv=>whnf
      rw [wM,eR]
      obtain ⟨k1,k2⟩:=h2d
      have r1:q * 4294967296+q2=(hi * 18446744073709551616+lo) / y:=by rw [EQA,EQB];exact k1
      have r2:((V * 4294967296+n0) % Y).fdiv (2 ^ s)=(hi * 18446744073709551616+lo) % y:=by
       rw [D6v _ (D7K hp),k2];exact hsc.2
      have lq1:0≤q∧q<4294967296:=by rw [EQA,eY];exact ⟨g0,g1⟩
      have lq0:0≤q2∧q2<4294967296:=by rw [EQB,eY];exact ⟨j0,j1⟩
      refine ⟨?_,rfl⟩
      show AV.tuple [AV.int .u64 _,AV.int .u64 _]=_
      rw [B5 (x:=q * 4294967296) (by omega) (by omega),B5 (x:=q * 4294967296+q2) (by omega) (by omega),r1,r2]
     ·have hd'B:=D5F hdB
      have dSB:=d1B.step (by omega) (A8e (by omega) d1B.hu (by omega)) G0B
      have hqpB:=dSB.h0
      conv=>whnf
      rw [B5 (x:=q2 - 1) (by omega) (by omega),B5 (x:=r2+y1) (by omega) (by omega)]
      cases hbB:decide (r2+y1≥4294967296)
      ·have hb'B:=D5G hbB
       conv=>whnf
       refine F7 ?_
       exact ⟨(q2 - 1).toNat,by omega,q2 - 1,r2+y1,dSB,by omega,by omega,rfl,rfl,rfl⟩
      ·have hb'B:=D5F hbB
       obtain ⟨e3B,e4B⟩:=eB (q2 - 1) (by omega) (by omega)
       have EQB:q2 - 1=(V * 4294967296+n0) / Y:=by rw [eY];exact dSB.stop (by omega) (by omega)
       conv=>whnf
       have eR:=R8 (U:=V) (n:=n0) (Y:=Y) (by omega) hY1 EQB
       conv=>whnf
       try rw [D5J (show ¬(s:Int)<0 by omega)]
       conv=>whnf
       rw [wM,eR]
       obtain ⟨k1,k2⟩:=h2d
       have r1:q * 4294967296+(q2 - 1)=(hi * 18446744073709551616+lo) / y:=by rw [EQA,EQB];exact k1
       have r2:((V * 4294967296+n0) % Y).fdiv (2 ^ s)=(hi * 18446744073709551616+lo) % y:=by
        rw [D6v _ (D7K hp),k2];exact hsc.2
       have lq1:0≤q∧q<4294967296:=by rw [EQA,eY];exact ⟨g0,g1⟩
       have lq0:0≤(q2 - 1)∧(q2 - 1)<4294967296:=by rw [EQB,eY];exact ⟨j0,j1⟩
       refine ⟨?_,rfl⟩
       show AV.tuple [AV.int .u64 _,AV.int .u64 _]=_
       rw [B5 (x:=q * 4294967296) (by omega) (by omega),B5 (x:=q * 4294967296+(q2 - 1)) (by omega) (by omega),r1,r2]
    ·have hc'B:=D5F hcB
     have dSB:=d1B.step (by omega) (by omega) G0B
     have hqpB:=dSB.h0
     conv=>whnf
     rw [B5 (x:=q2 - 1) (by omega) (by omega),B5 (x:=r2+y1) (by omega) (by omega)]
     cases hbB:decide (r2+y1≥4294967296)
     ·have hb'B:=D5G hbB
      conv=>whnf
      refine F7 ?_
      exact ⟨(q2 - 1).toNat,by omega,q2 - 1,r2+y1,dSB,by omega,by omega,rfl,rfl,rfl⟩
     ·have hb'B:=D5F hbB
      obtain ⟨e3B,e4B⟩:=eB (q2 - 1) (by omega) (by omega)
      have EQB:q2 - 1=(V * 4294967296+n0) / Y:=by rw [eY];exact dSB.stop (by omega) (by omega)
      conv=>whnf
      have eR:=R8 (U:=V) (n:=n0) (Y:=Y) (by omega) hY1 EQB
      conv=>whnf
      try rw [D5J (show ¬(s:Int)<0 by omega)]
      conv=>whnf
      rw [wM,eR]
      obtain ⟨k1,k2⟩:=h2d
      have r1:q * 4294967296+(q2 - 1)=(hi * 18446744073709551616+lo) / y:=by rw [EQA,EQB];exact k1
      have r2:((V * 4294967296+n0) % Y).fdiv (2 ^ s)=(hi * 18446744073709551616+lo) % y:=by
       rw [D6v _ (D7K hp),k2];exact hsc.2
      have lq1:0≤q∧q<4294967296:=by rw [EQA,eY];exact ⟨g0,g1⟩
      have lq0:0≤(q2 - 1)∧(q2 - 1)<4294967296:=by rw [EQB,eY];exact ⟨j0,j1⟩
      refine ⟨?_,rfl⟩
      show AV.tuple [AV.int .u64 _,AV.int .u64 _]=_
      rw [B5 (x:=q * 4294967296) (by omega) (by omega),B5 (x:=q * 4294967296+(q2 - 1)) (by omega) (by omega),r1,r2]
   ·have hd'A:=D5F hdA
    have dSA:=d1A.step (by omega) (A8e (by omega) d1A.hu (by omega)) G0A
    have hqpA:=dSA.h0
    conv=>whnf
    rw [B5 (x:=q - 1) (by omega) (by omega),B5 (x:=r+y1) (by omega) (by omega)]
    cases hbA:decide (r+y1≥4294967296)
    ·have hb'A:=D5G hbA
     conv=>whnf
     refine F7 ?_
     exact ⟨(q - 1).toNat,by omega,q - 1,r+y1,dSA,by omega,by omega,rfl,rfl,rfl⟩
    ·have hb'A:=D5F hbA
     obtain ⟨e3A,e4A⟩:=eB (q - 1) (by omega) (by omega)
     have EQA:q - 1=(U * 4294967296+n1) / Y:=by rw [eY];exact dSA.stop (by omega) (by omega)
     conv=>whnf
     have eV:=R8 (Y:=Y) (by omega) hY1 EQA
     rw [eV]
     have hV0:=D7a (U * 4294967296+n1) (show Y≠0 by omega)
     have hV1:=D6N (U * 4294967296+n1) (show 0<Y by omega)
     clear eV
     dsimp only at h2d
     generalize (U * 4294967296+n1) % Y=V at *
     rw [D5J (show ¬ y1=0 by omega)];conv=>whnf
     obtain ⟨f1,f2,f3⟩:=A3G (u:=V) (n:=n0) hV0 b0 b0' a1 a0 a0' (by omega)
     have j0:0≤(V * 4294967296+n0) / (y1 * 4294967296+y0):=D7l (by omega) (by omega)
     have j1:(V * 4294967296+n0) / (y1 * 4294967296+y0)<4294967296:=(D7g (by omega)).2 (by omega)
     have wq:IntKind.u64.wrap (V.tdiv y1)=V / y1:=by rw [D6Y hV0];exact B5 f1.h0 (by omega)
     rw [wq]
     have hq1:=f1.hu
     have hr1:=f1.hr
     have wm:IntKind.u64.wrap (V / y1 * y1)=V / y1 * y1:=B5 (D7d f1.h0 (by omega)) (by omega)
     rw [wm]
     have wr:IntKind.u64.wrap (V - V / y1 * y1)=V - V / y1 * y1:=B5 hr1 (by omega)
     rw [wr]
     generalize V / y1=qs at *
     generalize V - qs * y1=rs at *
     clear wq wm wr hq1 hr1
     conv=>whnf
     refine ⟨[2,8,9,10,11,13,14,15,16,17,18],fun m vs st3=>∃ q2 r2:Int,A7e V n0 y1 y0 q2 r2∧r2<4294967296∧q2≤4294967297∧m=q2.toNat∧vs=[.int .u64 Y,.int .u64 s,.int .u64 y1,.int .u64 y0,.int .u64 U,.int .u64 n1,.int .u64 n0,.int .u64 (q - 1),.int .u64 r2,.int .u64 V,.int .u64 q2]∧st3=st'',?_,?_⟩
     ·conv=>whnf
      exact ⟨_,qs,rs,f1,by omega,f3,rfl,rfl,rfl⟩
     clear f1 f2 f3
     rintro m vs st3 ⟨q2,r2,d1B,d2B,d3B,rfl,rfl,rfl⟩
     have G0B:=j0
     have hr0B:=d1B.hr
     have hq0B:=d1B.h0
     conv=>whnf
     cases hcB:decide (q2≥4294967296)
     ·have hc'B:=D5G hcB
      obtain ⟨e1B,e2B⟩:=eB q2 hq0B (by omega)
      conv=>whnf
      rw [B5 (x:=q2 * y0) e1B (by omega),B5 (x:=4294967296 * r2) (by omega) (by omega),B5 (x:=4294967296 * r2+n0) (by omega) (by omega)]
      cases hdB:decide (q2 * y0>4294967296 * r2+n0)
      ·have hd'B:=D5G hdB
       have EQB:q2=(V * 4294967296+n0) / Y:=by rw [eY];exact d1B.stop (by omega) (by omega)
       conv=>whnf
       have eR:=R8 (U:=V) (n:=n0) (Y:=Y) (by omega) hY1 EQB
       conv=>whnf
       try rw [D5J (show ¬(s:Int)<0 by omega)]
       conv=>whnf
       rw [wM,eR]
       obtain ⟨k1,k2⟩:=h2d
       have r1:(q - 1) * 4294967296+q2=(hi * 18446744073709551616+lo) / y:=by rw [EQA,EQB];exact k1
       have r2:((V * 4294967296+n0) % Y).fdiv (2 ^ s)=(hi * 18446744073709551616+lo) % y:=by
        rw [D6v _ (D7K hp),k2];exact hsc.2
       have lq1:0≤(q - 1)∧(q - 1)<4294967296:=by rw [EQA,eY];exact ⟨g0,g1⟩
       have lq0:0≤q2∧q2<4294967296:=by rw [EQB,eY];exact ⟨j0,j1⟩
       refine ⟨?_,rfl⟩
       show AV.tuple [AV.int .u64 _,AV.int .u64 _]=_
       rw [B5 (x:=(q - 1) * 4294967296) (by omega) (by omega),B5 (x:=(q - 1) * 4294967296+q2) (by omega) (by omega),r1,r2]
      ·have hd'B:=D5F hdB
       have dSB:=d1B.step (by omega) (A8e (by omega) d1B.hu (by omega)) G0B
       have hqpB:=dSB.h0
       conv=>whnf
       rw [B5 (x:=q2 - 1) (by omega) (by omega),B5 (x:=r2+y1) (by omega) (by omega)]
       cases hbB:decide (r2+y1≥4294967296)
       ·have hb'B:=D5G hbB
        conv=>whnf
        refine F7 ?_
        exact ⟨(q2 - 1).toNat,by omega,q2 - 1,r2+y1,dSB,by omega,by omega,rfl,rfl,rfl⟩
       ·have hb'B:=D5F hbB
        obtain ⟨e3B,e4B⟩:=eB (q2 - 1) (by omega) (by omega)
        have EQB:q2 - 1=(V * 4294967296+n0) / Y:=by rw [eY];exact dSB.stop (by omega) (by omega)
        conv=>whnf
        have eR:=R8 (U:=V) (n:=n0) (Y:=Y) (by omega) hY1 EQB
        conv=>whnf
        try rw [D5J (show ¬(s:Int)<0 by omega)]
        conv=>whnf
        rw [wM,eR]
        obtain ⟨k1,k2⟩:=h2d
        have r1:(q - 1) * 4294967296+(q2 - 1)=(hi * 18446744073709551616+lo) / y:=by rw [EQA,EQB];exact k1
        have r2:((V * 4294967296+n0) % Y).fdiv (2 ^ s)=(hi * 18446744073709551616+lo) % y:=by
         rw [D6v _ (D7K hp),k2];exact hsc.2
        have lq1:0≤(q - 1)∧(q - 1)<4294967296:=by rw [EQA,eY];exact ⟨g0,g1⟩
        have lq0:0≤(q2 - 1)∧(q2 - 1)<4294967296:=by rw [EQB,eY];exact ⟨j0,j1⟩
        refine ⟨?_,rfl⟩
        show AV.tuple [AV.int .u64 _,AV.int .u64 _]=_
        rw [B5 (x:=(q - 1) * 4294967296) (by omega) (by omega),B5 (x:=(q - 1) * 4294967296+(q2 - 1)) (by omega) (by omega),r1,r2]
     ·have hc'B:=D5F hcB
      have dSB:=d1B.step (by omega) (by omega) G0B
      have hqpB:=dSB.h0
      conv=>whnf
      rw [B5 (x:=q2 - 1) (by omega) (by omega),B5 (x:=r2+y1) (by omega) (by omega)]
      cases hbB:decide (r2+y1≥4294967296)
      ·have hb'B:=D5G hbB
       conv=>whnf
       refine F7 ?_
       exact ⟨(q2 - 1).toNat,by omega,q2 - 1,r2+y1,dSB,by omega,by omega,rfl,rfl,rfl⟩
      ·have hb'B:=D5F hbB
       obtain ⟨e3B,e4B⟩:=eB (q2 - 1) (by omega) (by omega)
       have EQB:q2 - 1=(V * 4294967296+n0) / Y:=by rw [eY];exact dSB.stop (by omega) (by omega)
       conv=>whnf
       have eR:=R8 (U:=V) (n:=n0) (Y:=Y) (by omega) hY1 EQB
       conv=>whnf
       try rw [D5J (show ¬(s:Int)<0 by omega)]
       conv=>whnf
       rw [wM,eR]
       obtain ⟨k1,k2⟩:=h2d
       have r1:(q - 1) * 4294967296+(q2 - 1)=(hi * 18446744073709551616+lo) / y:=by rw [EQA,EQB];exact k1
       have r2:((V * 4294967296+n0) % Y).fdiv (2 ^ s)=(hi * 18446744073709551616+lo) % y:=by
        rw [D6v _ (D7K hp),k2];exact hsc.2
       have lq1:0≤(q - 1)∧(q - 1)<4294967296:=by rw [EQA,eY];exact ⟨g0,g1⟩
       have lq0:0≤(q2 - 1)∧(q2 - 1)<4294967296:=by rw [EQB,eY];exact ⟨j0,j1⟩
       refine ⟨?_,rfl⟩
       show AV.tuple [AV.int .u64 _,AV.int .u64 _]=_
       rw [B5 (x:=(q - 1) * 4294967296) (by omega) (by omega),B5 (x:=(q - 1) * 4294967296+(q2 - 1)) (by omega) (by omega),r1,r2]
  ·have hc'A:=D5F hcA
   have dSA:=d1A.step (by omega) (by omega) G0A
   have hqpA:=dSA.h0
   conv=>whnf
   rw [B5 (x:=q - 1) (by omega) (by omega),B5 (x:=r+y1) (by omega) (by omega)]
   cases hbA:decide (r+y1≥4294967296)
   ·have hb'A:=D5G hbA
    conv=>whnf
    refine F7 ?_
    exact ⟨(q - 1).toNat,by omega,q - 1,r+y1,dSA,by omega,by omega,rfl,rfl,rfl⟩
   ·have hb'A:=D5F hbA
    obtain ⟨e3A,e4A⟩:=eB (q - 1) (by omega) (by omega)
    have EQA:q - 1=(U * 4294967296+n1) / Y:=by rw [eY];exact dSA.stop (by omega) (by omega)
    conv=>whnf
    have eV:=R8 (Y:=Y) (by omega) hY1 EQA
    rw [eV]
    have hV0:=D7a (U * 4294967296+n1) (show Y≠0 by omega)
    have hV1:=D6N (U * 4294967296+n1) (show 0<Y by omega)
    clear eV
    dsimp only at h2d
    generalize (U * 4294967296+n1) % Y=V at *
    rw [D5J (show ¬ y1=0 by omega)];conv=>whnf
    obtain ⟨f1,f2,f3⟩:=A3G (u:=V) (n:=n0) hV0 b0 b0' a1 a0 a0' (by omega)
    have j0:0≤(V * 4294967296+n0) / (y1 * 4294967296+y0):=D7l (by omega) (by omega)
    have j1:(V * 4294967296+n0) / (y1 * 4294967296+y0)<4294967296:=(D7g (by omega)).2 (by omega)
    have wq:IntKind.u64.wrap (V.tdiv y1)=V / y1:=by rw [D6Y hV0];exact B5 f1.h0 (by omega)
    rw [wq]
    have hq1:=f1.hu
    have hr1:=f1.hr
    have wm:IntKind.u64.wrap (V / y1 * y1)=V / y1 * y1:=B5 (D7d f1.h0 (by omega)) (by omega)
    rw [wm]
    have wr:IntKind.u64.wrap (V - V / y1 * y1)=V - V / y1 * y1:=B5 hr1 (by omega)
    rw [wr]
    generalize V / y1=qs at *
    generalize V - qs * y1=rs at *
    clear wq wm wr hq1 hr1
    conv=>whnf
    refine ⟨[2,8,9,10,11,13,14,15,16,17,18],fun m vs st3=>∃ q2 r2:Int,A7e V n0 y1 y0 q2 r2∧r2<4294967296∧q2≤4294967297∧m=q2.toNat∧vs=[.int .u64 Y,.int .u64 s,.int .u64 y1,.int .u64 y0,.int .u64 U,.int .u64 n1,.int .u64 n0,.int .u64 (q - 1),.int .u64 r2,.int .u64 V,.int .u64 q2]∧st3=st'',?_,?_⟩
    ·conv=>whnf
     exact ⟨_,qs,rs,f1,by omega,f3,rfl,rfl,rfl⟩
    clear f1 f2 f3
    rintro m vs st3 ⟨q2,r2,d1B,d2B,d3B,rfl,rfl,rfl⟩
    have G0B:=j0
    have hr0B:=d1B.hr
    have hq0B:=d1B.h0
    conv=>whnf
    cases hcB:decide (q2≥4294967296)
    ·have hc'B:=D5G hcB
     obtain ⟨e1B,e2B⟩:=eB q2 hq0B (by omega)
     conv=>whnf
     rw [B5 (x:=q2 * y0) e1B (by omega),B5 (x:=4294967296 * r2) (by omega) (by omega),B5 (x:=4294967296 * r2+n0) (by omega) (by omega)]
     cases hdB:decide (q2 * y0>4294967296 * r2+n0)
     ·have hd'B:=D5G hdB
      have EQB:q2=(V * 4294967296+n0) / Y:=by rw [eY];exact d1B.stop (by omega) (by omega)
      conv=>whnf
      have eR:=R8 (U:=V) (n:=n0) (Y:=Y) (by omega) hY1 EQB
      conv=>whnf
      try rw [D5J (show ¬(s:Int)<0 by omega)]
      conv=>whnf
      rw [wM,eR]
      obtain ⟨k1,k2⟩:=h2d
      have r1:(q - 1) * 4294967296+q2=(hi * 18446744073709551616+lo) / y:=by rw [EQA,EQB];exact k1
      have r2:((V * 4294967296+n0) % Y).fdiv (2 ^ s)=(hi * 18446744073709551616+lo) % y:=by
       rw [D6v _ (D7K hp),k2];exact hsc.2
      have lq1:0≤(q - 1)∧(q - 1)<4294967296:=by rw [EQA,eY];exact ⟨g0,g1⟩
      have lq0:0≤q2∧q2<4294967296:=by rw [EQB,eY];exact ⟨j0,j1⟩
      refine ⟨?_,rfl⟩
      show AV.tuple [AV.int .u64 _,AV.int .u64 _]=_
      rw [B5 (x:=(q - 1) * 4294967296) (by omega) (by omega),B5 (x:=(q - 1) * 4294967296+q2) (by omega) (by omega),r1,r2]
     ·have hd'B:=D5F hdB
      have dSB:=d1B.step (by omega) (A8e (by omega) d1B.hu (by omega)) G0B
      have hqpB:=dSB.h0
      conv=>whnf
      rw [B5 (x:=q2 - 1) (by omega) (by omega),B5 (x:=r2+y1) (by omega) (by omega)]
      cases hbB:decide (r2+y1≥4294967296)
      ·have hb'B:=D5G hbB
       conv=>whnf
       refine F7 ?_
       exact ⟨(q2 - 1).toNat,by omega,q2 - 1,r2+y1,dSB,by omega,by omega,rfl,rfl,rfl⟩
      ·have hb'B:=D5F hbB
       obtain ⟨e3B,e4B⟩:=eB (q2 - 1) (by omega) (by omega)
       have EQB:q2 - 1=(V * 4294967296+n0) / Y:=by rw [eY];exact dSB.stop (by omega) (by omega)
       conv=>whnf
       have eR:=R8 (U:=V) (n:=n0) (Y:=Y) (by omega) hY1 EQB
       conv=>whnf
       try rw [D5J (show ¬(s:Int)<0 by omega)]
       conv=>whnf
       rw [wM,eR]
       obtain ⟨k1,k2⟩:=h2d
       have r1:(q - 1) * 4294967296+(q2 - 1)=(hi * 18446744073709551616+lo) / y:=by rw [EQA,EQB];exact k1
       have r2:((V * 4294967296+n0) % Y).fdiv (2 ^ s)=(hi * 18446744073709551616+lo) % y:=by
        rw [D6v _ (D7K hp),k2];exact hsc.2
       have lq1:0≤(q - 1)∧(q - 1)<4294967296:=by rw [EQA,eY];exact ⟨g0,g1⟩
       have lq0:0≤(q2 - 1)∧(q2 - 1)<4294967296:=by rw [EQB,eY];exact ⟨j0,j1⟩
       refine ⟨?_,rfl⟩
       show AV.tuple [AV.int .u64 _,AV.int .u64 _]=_
       rw [B5 (x:=(q - 1) * 4294967296) (by omega) (by omega),B5 (x:=(q - 1) * 4294967296+(q2 - 1)) (by omega) (by omega),r1,r2]
    ·have hc'B:=D5F hcB
     have dSB:=d1B.step (by omega) (by omega) G0B
     have hqpB:=dSB.h0
     conv=>whnf
     rw [B5 (x:=q2 - 1) (by omega) (by omega),B5 (x:=r2+y1) (by omega) (by omega)]
     cases hbB:decide (r2+y1≥4294967296)
     ·have hb'B:=D5G hbB
      conv=>whnf
      refine F7 ?_
      exact ⟨(q2 - 1).toNat,by omega,q2 - 1,r2+y1,dSB,by omega,by omega,rfl,rfl,rfl⟩
     ·have hb'B:=D5F hbB
      obtain ⟨e3B,e4B⟩:=eB (q2 - 1) (by omega) (by omega)
      have EQB:q2 - 1=(V * 4294967296+n0) / Y:=by rw [eY];exact dSB.stop (by omega) (by omega)
      conv=>whnf
      have eR:=R8 (U:=V) (n:=n0) (Y:=Y) (by omega) hY1 EQB
      conv=>whnf
      try rw [D5J (show ¬(s:Int)<0 by omega)]
      conv=>whnf
      rw [wM,eR]
      obtain ⟨k1,k2⟩:=h2d
      have r1:(q - 1) * 4294967296+(q2 - 1)=(hi * 18446744073709551616+lo) / y:=by rw [EQA,EQB];exact k1
      have r2:((V * 4294967296+n0) % Y).fdiv (2 ^ s)=(hi * 18446744073709551616+lo) % y:=by
       rw [D6v _ (D7K hp),k2];exact hsc.2
      have lq1:0≤(q - 1)∧(q - 1)<4294967296:=by rw [EQA,eY];exact ⟨g0,g1⟩
      have lq0:0≤(q2 - 1)∧(q2 - 1)<4294967296:=by rw [EQB,eY];exact ⟨j0,j1⟩
      refine ⟨?_,rfl⟩
      show AV.tuple [AV.int .u64 _,AV.int .u64 _]=_
      rw [B5 (x:=(q - 1) * 4294967296) (by omega) (by omega),B5 (x:=(q - 1) * 4294967296+(q2 - 1)) (by omega) (by omega),r1,r2]
def Q5 (x:Int):Bool:=decide (0≤x)&&decide (x≤100000000000000)
theorem Y8 (x:Int):Q5 x=true↔0≤x∧x≤100000000000000:=by simp [Q5]
def S9 (q r den round:Int):Int :=
 if round=0 then q
 else if round=1 then (if r≥den - r then q+1 else q)
 else (if r>den - r∨(r=den - r∧q % 2=1) then q+1 else q)
def W4 (x num den round:Int):Int×Int :=
 if (Q5 x&&Q5 num&&Q5 den&&den != 0&&decide (0≤round)&&decide (round<3))=false then (0,2)
 else if x * num / den>100000000000000 then (0,5)
 else if S9 (x * num / den) (x * num % den) den round>100000000000000 then (0,5)
 else (S9 (x * num / den) (x * num % den) den round,0)
abbrev eU (x:Int):AV:=.int .u64 x
theorem C7R (q r d:Int) (st:St):S P 202 [.agg [eU q,eU r,eU d]] st fun v st'=>v=eU q∧st'=st:=by
 refine F2 [1] Tryz.func202 ?_
 exact ⟨rfl,rfl⟩
theorem D3Y (q r d:Int) (hq:0≤q) (hq':q≤100000000000000) (hr:0≤r) (hr':r<d) (hd:d≤100000000000000) (st:St):S P 203 [.agg [eU q,eU r,eU d]] st fun v st'=>v=eU (if r≥d - r then q+1 else q)∧st'=st:=by
 refine F2 [1] Tryz.func203 ?_
 rw [B5 (x:=d - r) (by omega) (by omega)]
 refine B8 (fun h=>?_) (fun h=>?_)<;>rw [h]<;>simp only [D5E,D5D] at h
 ·conv=>whnf
  rw [B5 (x:=q+1) (by omega) (by omega)]
  exact ⟨by rw [if_pos h];rfl,rfl⟩
 ·conv=>whnf
  exact ⟨by rw [if_neg h];rfl,rfl⟩
theorem C7T (q r d:Int) (hq:0≤q) (hq':q≤100000000000000) (hr:0≤r) (hr':r<d) (hd:d≤100000000000000) (st:St):S P 204 [.agg [eU q,eU r,eU d]] st fun v st'=>v=eU (if r>d - r∨(r=d - r∧q % 2=1) then q+1 else q)∧st'=st:=by
 refine F2 [1] Tryz.func204 ?_
 have wd:IntKind.u64.wrap (d - r)=d - r:=B5 (by omega) (by omega)
 have w2:q.tmod 2=q % 2:=D7q hq
 repeat' ((conv=>whnf);refine B8 (fun h=>?_) (fun h=>?_)<;>rw [h])
 all_goals (conv=>whnf)
 all_goals (try rw [B5 (x:=q+1) (by omega) (by omega)])
 all_goals (refine ⟨?_,rfl⟩;show AV.int .u64 _=AV.int .u64 _;congr 1)
 all_goals (simp only [w2,wd,D5E,D5D,D6z,D6o,ne_eq] at *)
 all_goals (split<;>omega)
theorem B5f (x num den round:Int) (st:St):S P 149 [eI x,eI num,eI den,eI round] st fun v st'=>v=.tuple [eI (W4 x num den round).1,eI (W4 x num den round).2]∧st'=st:=by
 refine SyW [10] Tryz.func149 ?_
 repeat' ((conv=>whnf);first | refine B3 (A6Q _ st) ?_ | (refine B8 (fun h=>?_) (fun h=>?_)<;>rw [h]))
 all_goals (conv=>whnf)
 all_goals first
  | (refine ⟨?_,rfl⟩
     have e:(Q5 x&&Q5 num&&Q5 den&&den != 0&&decide (0≤round)&&decide (round<3))=false:=by
      rw [←D6D]
      intro hh
      simp only [Q5,D5I,D5W,D6l,D8h,ne_eq,D5E,D5D,D6z,D6o,D7L] at *
      omega
     rw [show W4 x num den round=(0,2) from if_pos e];rfl)
  | skip
 have e:¬(Q5 x&&Q5 num&&Q5 den&&den != 0&&decide (0≤round)&&decide (round<3))=false:=by
  rw [D8a]
  simp only [Q5,D5I,D5W,D6l,D8h,ne_eq,D5E,D5D,D6z,D6o,D7L] at *
  omega
 have hb:=D8a _▸e
 simp only [Q5,D5I,D8h,ne_eq,D5E] at hb
 obtain ⟨⟨⟨⟨⟨⟨x0,x1⟩,n0,n1⟩,d0,d1⟩,d2⟩,r0⟩,r1⟩:=hb
 have wx:IntKind.u64.wrap x=x:=B5 (by omega) (by omega)
 have wn:IntKind.u64.wrap num=num:=B5 (by omega) (by omega)
 have wd:IntKind.u64.wrap den=den:=B5 (by omega) (by omega)
 rw [wx,wn]
 have hN:0≤x * num:=D7d x0 n0
 have hN':x * num≤100000000000000 * 100000000000000:=D8b x1 n1 n0 (by omega)
 refine B3 (B9z x num ⟨by omega,by omega⟩ ⟨by omega,by omega⟩ st) ?_
 have et:W4 x num den round=if x * num / den>100000000000000 then (0,5) else if S9 (x * num / den) (x * num % den) den round>100000000000000 then (0,5) else (S9 (x * num / den) (x * num % den) den round,0):=if_neg e
 rw [et]
 clear et e
 generalize x * num=N at *
 have hq0:0≤N / den:=D7l hN (by omega)
 have hm0:=D7a N d2
 have hm1:=D6N N (show 0<den by omega)
 have hme:=D6M N den
 conv=>whnf
 rw [wd]
 refine B8 (fun hg=>?_) (fun hg=>?_)<;>rw [hg]<;>simp only [D5E,D5D] at hg
 ·conv=>whnf
  refine ⟨?_,rfl⟩
  have:N / den>100000000000000:=by
   refine Int.lt_of_not_ge fun hle=>?_
   have h1:N<(100000000000000+1) * den:=(D7g (show 0<den by omega)).1 (by omega)
   omega
  rw [if_pos this];rfl
 ·conv=>whnf
  rw [wd]
  refine B3 (B9k _ _ den (by omega) (by omega) (by omega) (by omega) (by omega) st) ?_
  rw [show N / 18446744073709551616 * 18446744073709551616+N % 18446744073709551616=N by omega];conv=>whnf
  refine B8 (fun hq=>?_) (fun hq=>?_)<;>rw [hq]<;>simp only [D5E,D5D] at hq
  ·conv=>whnf
   exact ⟨by rw [if_pos hq];rfl,rfl⟩
  ·rw [if_neg hq]
   generalize N / den=q at *
   generalize N % den=r at *
   have bq:S9 q r den round≤100000000000001∧0≤S9 q r den round:=by unfold S9;repeat' split<;>omega
   suffices hcall:∀ f,f=(if round=0 then 202 else if round=1 then 203 else 204)→S P f [.agg [eU q,eU r,eU den]] st fun v st'=>v=eU (S9 q r den round)∧st'=st by
    have fin:∀ R:Int,R≤100000000000001→0≤R→IntKind.i64.wrap R=R:=fun R h1 h2=>A5 (by omega) (by omega)
    generalize S9 q r den round=R at *
    rcases (by omega:round=0∨round=1∨round=2) with rfl | rfl | rfl
    all_goals (conv=>whnf)
    all_goals (refine ⟨⟨by omega,by omega⟩,?_⟩;conv=>whnf)
    all_goals (rw [wd])
    all_goals (refine B3 (hcall _ rfl) ?_)
    all_goals (conv=>whnf)
    all_goals (refine B8 (fun hR=>?_) (fun hR=>?_)<;>rw [hR]<;>simp only [D5E,D5D] at hR)
    all_goals (conv=>whnf)
    all_goals (refine ⟨?_,rfl⟩)
    all_goals first
     | (rw [if_pos hR];rfl)
     | (rw [if_neg hR,fin R bq.1 bq.2];rfl)
   rintro f rfl
   rcases (by omega:round=0∨round=1∨round=2) with rfl | rfl | rfl
   ·exact (C7R q r den st).mono fun v st' h=>h
   ·exact (D3Y q r den hq0 (by omega) hm0 hm1 d1 st).mono fun v st' h=>h
   ·exact (C7T q r den hq0 (by omega) hm0 hm1 d1 st).mono fun v st' h=>h
theorem B8q (x rate round:Int) (st:St):S P 91 [eI x,eI rate,eI round] st fun v st'=>v=.tuple [eI (if 0≤rate∧rate≤10000 then W4 x rate 10000 round else (0,2)).1,eI (if 0≤rate∧rate≤10000 then W4 x rate 10000 round else (0,2)).2]∧st'=st:=by
 refine SyW [] Tryz.func91 ?_
 repeat' ((conv=>whnf);first | refine B3 (B5f _ _ _ _ st) ?_ | (refine B8 (fun h=>?_) (fun h=>?_)<;>rw [h]))
 all_goals (conv=>whnf)
 all_goals (refine ⟨?_,rfl⟩;simp only [D5E,D5D] at *)
 ·rw [if_neg (by omega)];rfl
 ·rw [if_neg (by omega)];rfl
 ·rw [if_pos (by omega)];rfl
abbrev Big:Nat:=9223372036854775807
def O7 (lo hi x:Int):Bool:=decide (x≥lo)&&decide (x≤hi)
def L4 {α : Type} [Inhabited α] (l:List α) (p:Nat→α→Bool):Bool:=(List.range l.length).all fun k=>p k (l.getD k default)
theorem L0 {α : Type} [Inhabited α] {l:List α} {p:Nat→α→Bool} (h:∀ k,k<l.length→p k (l.getD k default)=true):L4 l p=true:=A6D h
theorem W7 {α : Type} [Inhabited α] {l:List α} {p:Nat→α→Bool} {k:Nat} (hk:k<l.length) (h:p k (l.getD k default)=false):L4 l p=false:=A4r hk h
theorem H8 {i:Nat} {q:Nat→Prop} (h:∀ k,k<i→q k) (hi:q i):∀ k,k<i+1→q k:=fun k hk=>by
 rcases D6y.1 hk with h' | h'
 ·exact h k h'
 ·rw [h'];exact hi
theorem B4q {α : Type} [Inhabited α] (g : α→C8) (l:List α) (st:St):A7 [.arr 1 l.length (fun k=>eS (g (l.getD k default)))] st [C9 (l.map g)] st:=by
 have e:C9 (l.map g)=.arr 1 l.length (fun k=>eS ((l.map g).getD k default)):=by unfold C9 A8;rw [D5H]
 rw [e]
 exact A7.arr fun i hi=>by rw [D4 g l hi]
theorem C2U (x:Int) (st:St):S P 87 [eI x] st fun v st'=>v=.bool (O7 0 100000 x)∧st'=st:=by
 refine SyW [] Tryz.func87 ?_
 repeat' ((conv=>whnf);first  | (refine B8 (fun h=>?_) (fun h=>?_)<;>rw [h]))
 all_goals (conv=>whnf)
 all_goals (refine ⟨?_,rfl⟩;show AV.bool _=AV.bool _;congr 1)
 all_goals (simp only [O7, *,D5T,D6b,D6w,D6j,D6t,D6u,D6x,D6q,D6r,D6k,D6X];try rfl)
theorem B4P (x:Int) (st:St):S P 200 [eI x] st fun v st'=>v=.bool (O7 0 10000 x)∧st'=st:=by
 refine SyW [] Tryz.func200 ?_
 repeat' ((conv=>whnf);first  | (refine B8 (fun h=>?_) (fun h=>?_)<;>rw [h]))
 all_goals (conv=>whnf)
 all_goals (refine ⟨?_,rfl⟩;show AV.bool _=AV.bool _;congr 1)
 all_goals (simp only [O7, *,D5T,D6b,D6w,D6j,D6t,D6u,D6x,D6q,D6r,D6k,D6X];try rfl)
theorem B7O (x:Int) (st:St):S P 126 [eI x] st fun v st'=>v=.bool (O7 1 9 x)∧st'=st:=by
 refine SyW [] Tryz.func126 ?_
 repeat' ((conv=>whnf);first  | (refine B8 (fun h=>?_) (fun h=>?_)<;>rw [h]))
 all_goals (conv=>whnf)
 all_goals (refine ⟨?_,rfl⟩;show AV.bool _=AV.bool _;congr 1)
 all_goals (simp only [O7, *,D5T,D6b,D6w,D6j,D6t,D6u,D6x,D6q,D6r,D6k,D6X];try rfl)
def lineC (x:E4):Bool:=O7 0 100000 x.qty&&O7 0 1000000000 x.price
theorem C8a (x:E4) (st:St):S P 287 [H6 x] st fun v st'=>v=.bool (lineC x)∧st'=st:=by
 refine SyW [1] Tryz.func287 ?_
 repeat' ((conv=>whnf);first  | (refine B8 (fun h=>?_) (fun h=>?_)<;>rw [h]))
 all_goals (conv=>whnf)
 all_goals (refine ⟨?_,rfl⟩;show AV.bool _=AV.bool _;congr 1)
 all_goals (simp only [lineC,O7, *,D5T,D6b,D6w,D6j,D6t,D6u,D6x,D6q,D6r,D6k,D6X];try rfl)
def A9O (x:Ab.Ship):Bool:=O7 0 1000000000 x.fee&&O7 0 10000000000000 x.free
theorem C8w (x:Ab.Ship) (st:St):S P 147 [C7a x] st fun v st'=>v=.bool (A9O x)∧st'=st:=by
 refine SyW [1] Tryz.func147 ?_
 repeat' ((conv=>whnf);first  | (refine B8 (fun h=>?_) (fun h=>?_)<;>rw [h]))
 all_goals (conv=>whnf)
 all_goals (refine ⟨?_,rfl⟩;show AV.bool _=AV.bool _;congr 1)
 all_goals (simp only [A9O,O7, *,D5T,D6b,D6w,D6j,D6t,D6u,D6x,D6q,D6r,D6k,D6X];try rfl)
abbrev B5E (p:B1):AV:=.agg (cellsOf (B7 p))
def A8s (p:B1):Bool:=O7 1 10000 p.rate
def A8q (p:B1):Bool:=O7 1 1000000000 p.amount
def A8r (p:B1):Bool:=A8s p&&(O7 1 100 p.buy&&O7 1 100 p.get)
def A0Y (x:A2n):Bool:=A0r x.scope&&!(decide (x.count<1)||decide (x.count>100))
theorem B4y (p:B1) (st:St):S P 242 [B5E p] st fun v st'=>v=.bool (A8s p)∧st'=st:=by
 refine SyW [1] Tryz.func242 ?_
 repeat' ((conv=>whnf);first  | (refine B8 (fun h=>?_) (fun h=>?_)<;>rw [h]))
 all_goals (conv=>whnf)
 all_goals (refine ⟨?_,rfl⟩;show AV.bool _=AV.bool _;congr 1)
 all_goals (simp only [A8s,O7, *,D5T,D6b,D6w,D6j,D6t,D6u,D6x,D6q,D6r,D6k,D6X];try rfl)
theorem C1b (p:B1) (st:St):S P 243 [B5E p] st fun v st'=>v=.bool (A8q p)∧st'=st:=by
 refine SyW [1] Tryz.func243 ?_
 repeat' ((conv=>whnf);first  | (refine B8 (fun h=>?_) (fun h=>?_)<;>rw [h]))
 all_goals (conv=>whnf)
 all_goals (refine ⟨?_,rfl⟩;show AV.bool _=AV.bool _;congr 1)
 all_goals (simp only [A8q,O7, *,D5T,D6b,D6w,D6j,D6t,D6u,D6x,D6q,D6r,D6k,D6X];try rfl)
theorem C1d (p:B1) (st:St):S P 244 [B5E p] st fun v st'=>v=.bool (A8r p)∧st'=st:=by
 refine SyW [1] Tryz.func244 ?_
 repeat' ((conv=>whnf);first | refine B3 (B4y p st) ?_ | (refine B8 (fun h=>?_) (fun h=>?_)<;>rw [h]))
 all_goals (conv=>whnf)
 all_goals (refine ⟨?_,rfl⟩;show AV.bool _=AV.bool _;congr 1)
 all_goals (simp only [A8r,O7, *,D5T,D6b,D6w,D6j,D6t,D6u,D6x,D6q,D6r,D6k,D6X];try rfl)
def N3 (s:C8):Bool:=s.toList==(⟨#[]⟩:C8).toList
def A2G (s:C8):Bool:=N3 s||D0 s
theorem C5W (s:C8) (st:St):S P 282 [eS s] st fun v st'=>v=.bool (A2G s)∧st'=st:=by
 refine SyW [] Tryz.func282 ?_
 repeat' ((conv=>whnf);first | refine B3 (A2F s st) ?_ | (refine B8 (fun h=>?_) (fun h=>?_)<;>rw [h]))
 all_goals (conv=>whnf)
 all_goals (refine ⟨?_,rfl⟩;show AV.bool _=AV.bool _;congr 1)
 all_goals (simp only [A2G,N3, *,D5T,D6b,D6w,D6j,D6t,D6u,D6x,D6q,D6r,D6k,D6X];try rfl)
theorem C0X (x:A2n) (h1:x.scope.skus.length≤Big) (h2:x.scope.cats.length≤Big) (st:St):S P 280 [W1 x] st fun v st'=>v=.bool (!A0Y x)∧st'=st:=by
 refine SyW [1] Tryz.func280 ?_
 repeat' ((conv=>whnf);first | refine B3 (B9N x.scope h1 h2 st) ?_ | (refine B8 (fun h=>?_) (fun h=>?_)<;>rw [h]))
 all_goals (conv=>whnf)
 all_goals (refine ⟨?_,rfl⟩;show AV.bool _=AV.bool _;congr 1)
 all_goals (simp only [A0Y,D5W,D6l, *,D5T,D6b,D6w,D6j,D6t,D6u,D6x,D6q,D6r,D6k,D6X] at *;try simp only [*,D5T,D6b,D6r,D6k,D6x,D6q,D6X])
def B5m (l:List A2n):Prop:=l.length≤Big∧∀ x∈l,x.scope.skus.length≤Big∧x.scope.cats.length≤Big
def A6M (p:B1):Bool:=!(decide ((p.parts.length:Int)<1)||decide ((p.parts.length:Int)>3)||decide (p.amount<0)||decide (p.amount>10000000000000))&&!(p.parts.any fun x=>!A0Y x)
theorem C1c (p:B1) (hp:B5m p.parts) (st:St):S P 245 [B5E p] st fun v st'=>v=.bool (A6M p)∧st'=st:=by
 refine SyW [1] Tryz.func245 ?_
 repeat' ((conv=>whnf);first | refine B3 (B8f p.parts hp.1 _ [] (fun x=>!A0Y x) st fun x hx=>C0X x (hp.2 x hx).1 (hp.2 x hx).2 st) ?_ | (refine B8 (fun h=>?_) (fun h=>?_)<;>rw [h]))
 all_goals (conv=>whnf)
 all_goals (refine ⟨?_,rfl⟩;show AV.bool _=AV.bool _;congr 1)
 all_goals (simp only [A6M, *,D5T,D6b,D6w,D6j,D6t,D6u,D6x,D6q,D6r,D6k,D6X];try rfl)
def A4a (l:List A0U) (k:Nat) (x:A0U):Bool :=
 !(decide (x.least≤(if k=0 then -1 else (l.getD (k - 1) default).least))||decide (x.least>10000000000000)||decide (x.rate<0)||decide (x.rate>10000)||decide (x.amount<0)||decide (x.amount>10000000000000)||(x.rate==0&&x.amount==0))
def A0c (l:List A0U):Bool:=!(decide ((l.length:Int)<1)||decide ((l.length:Int)>6))&&L4 l (A4a l)
theorem B9W (p:B1) (st:St):S P 246 [B5E p] st fun v st'=>v=.bool (A0c p.tiers)∧st'=st:=by
 refine SyW [1,5] Tryz.func246 ?_
 repeat' ((conv=>whnf);first  | (refine B8 (fun h=>?_) (fun h=>?_)<;>rw [h]))
 all_goals (conv=>whnf)
 all_goals first
  | (refine ⟨?_,rfl⟩;show AV.bool _=AV.bool _;congr 1;simp only [A0c, *,D6x,D6t,D6r,D6b];done)
  | skip
 generalize hl:p.tiers=l at *
 have hs:l.length≤6:=by simp only [D5E,D5D] at *;omega
 have ht:A0c l=L4 l (A4a l):=by simp only [A0c, *,D6u,D6k,D5T]
 refine ⟨[3,20,21,22],fun m vs st'=>∃ i:Nat,i≤l.length∧(∀ k,k<i→A4a l k (l.getD k default)=true)∧m=l.length - i∧vs=[eI (if i=0 then -1 else (l.getD (i - 1) default).least),A8 3 S3 l,eI l.length,eI i]∧st'=st,?_,?_⟩
 ·conv=>whnf
  exact ⟨_,0,D6e _,fun k hk=>absurd hk (by omega),rfl,rfl,rfl⟩
 ·rintro m vs st' ⟨i,hi,hok,rfl,rfl,rfl⟩
  conv=>whnf
  cases h:decide ((i:Int)<(l.length:Int))
  ·have:=D5G h
   conv=>whnf
   refine ⟨?_,rfl⟩
   rw [ht,L0 fun k hk=>hok k (by omega)];rfl
  ·have hi':i<l.length:=by have:=D5F h;omega
   conv=>whnf
   refine ⟨rfl,⟨by omega,by omega⟩,?_⟩
   have yes:A4a l i (l.getD (i:Int).toNat default)=true→∀ k,k<i+1→A4a l k (l.getD k default)=true:=fun h=>H8 hok h
   have no:A4a l i (l.getD (i:Int).toNat default)=false→A0c l=false:=fun h=>by rw [ht];exact W7 hi' h
   unfold A4a at yes no
   repeat' ((conv=>whnf);first  | (refine B8 (fun h=>?_) (fun h=>?_)<;>rw [h]))
   all_goals (conv=>whnf)
   all_goals first
    | (refine ⟨?_,rfl⟩;rw [no (by simp only [*,D5T,Bool.and_self,D6t,D6x,D6r])];rfl)
    | (refine ⟨rfl,?_⟩
       conv=>whnf
       exact ⟨l.length - (i+1),by omega,i+1,by omega,yes (by simp only [*,D6b,D6j,D6u,D6k]),rfl,by rw [B4 (by omega),if_neg (show ¬ i+1=0 by omega)];rfl,rfl⟩)
def A7g (p:B1):Bool:=D0 p.id&&O7 0 1000 p.prio&&A2G p.group&&A2G p.code&&A0r p.scope&&O7 0 10000000000000 p.least
structure A7U (s:V9):Prop where
 skus:s.skus.length≤Big
 cats:s.cats.length≤Big
theorem C6f (p:B1) (hsc:A7U p.scope) (st:St):S P 247 [B5E p] st fun v st'=>v=.bool (A7g p)∧st'=st:=by
 refine SyW [1] Tryz.func247 ?_
 repeat' ((conv=>whnf);first | refine B3 (A2F _ st) ?_ | refine B3 (C5W _ st) ?_ | refine B3 (B9N p.scope hsc.skus hsc.cats st) ?_ | (refine B8 (fun h=>?_) (fun h=>?_)<;>rw [h]))
 all_goals (conv=>whnf)
 all_goals (refine ⟨?_,rfl⟩;show AV.bool _=AV.bool _;congr 1)
 all_goals (simp only [A7g,O7, *,D5T,D6b,D6w,D6j,D6t,D6u,D6x,D6q,D6r,D6k,D6X];try rfl)
end Go.Proofs.YtaapofnkmpiknaaGreat
