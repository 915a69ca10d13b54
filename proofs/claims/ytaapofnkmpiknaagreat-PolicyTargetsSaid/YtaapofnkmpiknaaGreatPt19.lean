/- Part 19 of the proof: contracts -/
import Derived.Test.YtaapofnkmpiknaaGreatPt18
set_option maxRecDepth 100000
set_option linter.unusedVariables false
set_option linter.unusedSimpArgs false
namespace Go.Proofs.YtaapofnkmpiknaaGreat
open Go Go.Ab
theorem B6Q {P:Program} {t:TypeId} {name:String} {f:FuncId} (h:∀ v w,(method (P.types.size+Made.depth) t v name).run P w=.ok (f,v) w) (v:Value) (w:World) (args:Array Value):(callMethod (.iface t v) name args).run P w=(callFunc f (#[v]++args)).run P w:=by
 simp only [callMethod,Sem.run_bind,run_program,Result.andThen_ok,h]
theorem D0X (v : Value) (w : World) : (method (P.types.size + Made.depth) 318 v "Push").run P w = .ok (365, v) w := by kernel_rfl
theorem D4A (v : Value) (w : World) : (method (P.types.size + Made.depth) 318 v "Pop").run P w = .ok (364, v) w := by kernel_rfl
theorem A3O {P:Program} {t el:TypeId} {name:String} {f:FuncId} {n:Nat} {o:Option (List FieldStep×Option (FuncId×Bool))} (hn:P.types.size+Made.depth=n+1)
  (hI:(P.info? t).map (fun I=>(I.methods.find? (·.name==name)).map fun m=>(m.path.toList,m.func))=some o) (ho:o=some ([],some (f,false))) (hu:P.underlying t=some (.pointer el))
  (ad:Addr) (u:Value) (w:World) (hl:(loadVar el ad).run P w=.ok u w):(method (P.types.size+Made.depth) t (.pointer (some ad)) name).run P w=.ok (f,u) w:=by
 subst ho
 rw [hn]
 cases hi:P.info? t with
 | none=>rw [hi] at hI;cases hI
 | some I =>
  rw [hi] at hI
  simp only [D9j,D9n] at hI
  cases hm:I.methods.find? (·.name==name) with
  | none=>rw [hm] at hI;cases hI
  | some m =>
   rw [hm] at hI
   simp only [D9j,D9n,Prod.mk.injEq] at hI
   obtain ⟨h1,h2⟩:=hI
   have hpe:m.path.isEmpty=true:=by
    rw [Array.isEmpty_iff];exact Array.toList_eq_nil_iff.1 h1
   unfold method
   simp only [Sem.run_bind,typeInfo,run_program,Result.andThen_ok,hi,hm,h1,h2,follow,Sem.run_pure,receiverAt,run_underlying hu,Place.get,hpe,if_true]
   have hs : (Builtin.ssaWrapNilChk_ #[t] t #[Value.pointer (some ad), strVal "", strVal ((name.splitOn ".").getLastD name)]).run P w = .ok (.pointer (some ad)) w := rfl
   rw [hs]
   simp only [Result.andThen_ok,asAddr,Sem.run_pure,hl]
theorem D4x (ad : Addr) (u : Value) (w : World) (hl : (loadVar 313 ad).run P w = .ok u w) : (method (P.types.size + Made.depth) 318 (.pointer (some ad)) "Len").run P w = .ok (361, u) w := A3O (P := P) (t := 318) (el := 313) (name := "Len") (f := 361) (n := P.types.size + Made.depth - 1) (by kernel_rfl) (by kernel_rfl) rfl (by kernel_rfl) ad u w hl
theorem D0N (ad : Addr) (u : Value) (w : World) (hl : (loadVar 313 ad).run P w = .ok u w) : (method (P.types.size + Made.depth) 318 (.pointer (some ad)) "Less").run P w = .ok (362, u) w := A3O (P := P) (t := 318) (el := 313) (name := "Less") (f := 362) (n := P.types.size + Made.depth - 1) (by kernel_rfl) (by kernel_rfl) rfl (by kernel_rfl) ad u w hl
theorem D0O (ad : Addr) (u : Value) (w : World) (hl : (loadVar 313 ad).run P w = .ok u w) : (method (P.types.size + Made.depth) 318 (.pointer (some ad)) "Swap").run P w = .ok (363, u) w := A3O (P := P) (t := 318) (el := 313) (name := "Swap") (f := 363) (n := P.types.size + Made.depth - 1) (by kernel_rfl) (by kernel_rfl) rfl (by kernel_rfl) ad u w hl
def M:J5:=fun t n =>
 match Nat.beq t 318 with
 | false=>none
 | true=>match n with
  | "Len" => some (361, some 313)
  | "Less" => some (362, some 313)
  | "Swap" => some (363, some 313)
  | "Push" => some (365, none)
  | "Pop" => some (364, none)
  | _=>none
theorem mok:MOk P M:=fun t n f d h v w=>by
 unfold M at h
 split at h
 ·cases h
 rename_i ht
 have ht:=D9a ht
 subst ht
 split at h<;>first
  | (cases h;done)
  | (cases h;intro args;first | exact B6Q D0X v w args | exact B6Q D4A v w args)
  | (cases h;rintro ad u args rfl hl;simp only [callMethod,Sem.run_bind,run_program,Result.andThen_ok];(first | rw [D4x ad u w hl] | rw [D0N ad u w hl] | rw [D0O ad u w hl]);rfl)
theorem A4i:A7H P T M:=C6T D0v mok
theorem E9 {e e':Nat} {j:Int} {n:Nat} {k q:Prop} (h:q) (h1:e=e':=by rfl) (h2:0≤j∧j<(n:Int):=by omega) (hk:k=q:=by conv=>lhs;whnf):e=e'∧(0≤j∧j<n)∧k:=⟨h1,h2,hk▸h⟩
theorem G3 {a b:Nat} {k q:Prop} (h:q) (h1:a=b:=by rfl) (hk:k=q:=by conv=>lhs;whnf):a=b∧k:=⟨h1,hk▸h⟩
theorem L1 {T:H5} {t:TypeId} {e b i o ty n:Nat} {st:St} {k:KK} {r:C0} {f:Nat→AV} {v:AV} {q:Prop} (h:st b=some ⟨ty,e,n,f⟩) (hv:f i=v) (h':q) (hr:T t=some r:=by rfl) (hi:i<n:=by omega)
  (hk:A9m r (cellsOf v) o (fun y=>k y st)=q:=by conv=>lhs;whnf):C3h T t e b i o st k:=ldV h hr hi hv (hk▸h')
theorem stU {T:H5} {t:TypeId} {e b i o ty n:Nat} {u v:AV} {st:St} {k:KK} {r:C0} {f:Nat→AV} (h:st b=some ⟨ty,e,n,f⟩) (hv:f i=v)
  (hk:k (.tuple []) (upd st b ⟨ty,e,n,I6 f i (Q8 v o (cellsOf u))⟩)) (hr:T t=some r:=by rfl) (hi:i<n:=by omega)
  (hc:(Nat.blt 0 r.size&&Nat.beq (cellsOf u).length r.size&&(cellsOf u).all AV.one&&Nat.ble (o+r.size) e)=true:=by rfl):B8d T t e b i o u st k:=stV h hr hi hv hc hk
theorem stW {T:H5} {t:TypeId} {e b i o ty n:Nat} {u v:AV} {st:St} {k:KK} {r:C0} {f:Nat→AV} {q:Prop} (h:st b=some ⟨ty,e,n,f⟩) (hv:f i=v) (h':q) (hr:T t=some r:=by rfl) (hi:i<n:=by omega)
  (hc:(Nat.blt 0 r.size&&Nat.beq (cellsOf u).length r.size&&(cellsOf u).all AV.one&&Nat.ble (o+r.size) e)=true:=by rfl)
  (hk:k (.tuple []) (upd st b ⟨ty,e,n,I6 f i (Q8 v o (cellsOf u))⟩)=q:=by conv=>lhs;whnf):B8d T t e b i o u st k:=stV h hr hi hv hc (hk▸h')
theorem I3 {P:Program} {f:FuncId} {args:List AV} {st:St} {v:AV} {k:KK} {q:Prop} (h:S P f args st fun v' st'=>v'=v∧st'=st) (h':q) (hk:k v st=q:=by conv=>lhs;whnf):A2l P f args st k:=B2 h (hk▸h')
theorem cqW {P:Program} {f:FuncId} {args:List AV} {st:St} {v:AV} {k:AV→Prop} {q:Prop} (h:S P f args st fun v' st'=>v'=v∧st'=st) (h':q) (hk:k v=q:=by conv=>lhs;whnf) :
  ∃ v,A2l P f args st (fun v' st'=>v'=v∧st'=st)∧k v:=⟨v,call h fun _ _ h=>h,hk▸h'⟩
theorem SyW (frz:List Nat) {f:FuncId} {fn:Func} {c:Code} {args:List AV} {st:St} {post:KK} {n:Nat} {rs:Array ResultVar} (hf:P.funcs[f]?=some fn)
  (h : A4p args n fun A => ZC P T M frz (yDr P T M frz) [] c A st (C3e T rs.toList post)) (hname : (fn.name == "runtime.NumGoroutine") = false := by rfl) (hb : fn.body = some c := by rfl) (hn : fn.ntmps = n := by rfl) (hr : fn.results = rs := by rfl) :
  S P f args st post:=C3w frz A4i mixed hf hname hb hn hr h
theorem F7 (frz:List Nat) {f:FuncId} {fn:Func} {c:Code} {args:List AV} {st:St} {post:KK} {n:Nat} {rs:Array ResultVar} {q:Prop} (hf:P.funcs[f]?=some fn) (h:q)
  (hname : (fn.name == "runtime.NumGoroutine") = false := by rfl) (hb : fn.body = some c := by rfl) (hn : fn.ntmps = n := by rfl) (hr : fn.results = rs := by rfl)
  (hk:(A4p args n fun A=>ZC P T M frz (yDr P T M frz) [] c A st (C3e T rs.toList post))=q:=by conv=>lhs;whnf):S P f args st post:=C3w frz A4i mixed hf hname hb hn hr (hk▸h)
end Go.Proofs.YtaapofnkmpiknaaGreat
namespace Go.Ab
open Go
theorem lp {A:List AV} {st:St} (n:Nat) (keep:List Nat) (J:Nat→List AV→St→Prop) {B:List Nat→(Nat→KA)→Nat→List AV→St→Prop}
  (h0:A3X A keep fun us=>J 0 us st) (h:∀ i vs s,i≤n→J i vs s→B keep (fun m vs s=>∃ i,i≤n∧m=n - i∧J i vs s) (n - i) vs s) :
  ∃ (keep:List Nat) (I:Nat→KA),(A3X A keep fun us=>∃ m,I m us st)∧∀ m vs s,I m vs s→B keep I m vs s:=by
 rw [A2K] at h0
 refine ⟨keep,fun m vs s=>∃ i,i≤n∧m=n - i∧J i vs s,?_,?_⟩
 ·rw [A2K];exact ⟨n,0,D7C _,rfl,h0⟩
 ·rintro m vs s ⟨i,hi,rfl,hj⟩;exact h i vs s hi hj
theorem nx {n i:Nat} {J:Nat→Prop} (hi:i<n) (h:J (i+1)):∃ m',m'<n - i∧∃ i',i'≤n∧m'=n - i'∧J i':=⟨n - (i+1),by omega,i+1,hi,rfl,h⟩
theorem B9 {i n:Nat} (h:decide ((i:Int)<(n:Int))=false) (hi:i≤n):i=n:=by have:=D7g h;omega
theorem D6 {i n:Nat} (h:decide ((i:Int)<(n:Int))=true):i<n:=by have:=D7h h;omega
def E8 {α : Type} [Inhabited α] (ty e:Nat) (enc : α→AV) (L:List α) (st:St) (sv:AV) (st':St):Prop:=Col ty e (fun k=>enc (L.getD k default)) st L.length sv st'
theorem E8.start {α : Type} [Inhabited α] (ty e:Nat) (enc : α→AV) (st:St):E8 ty e enc [] st .emp st:=Col.start _ _ _ _
theorem C1D {α : Type} [Inhabited α] (L:List α) (x : α):(L++[x]).getD L.length default=x:=by simp [D7c]
theorem A4D {α : Type} [Inhabited α] {a b:List α} {k:Nat} (h:k<a.length):(a++b).getD k default=a.getD k default:=by
 rw [D7c,D7c,D7B h]
theorem E8.app {α : Type} [Inhabited α] {T:H5} {t:TypeId} {x sv:AV} {st st':St} {k:KK} {r q:C0} {el:Nat} {enc : α→AV} {L:List α} {y : α} {g:Nat→AV} (hr:T t=some r) (hd:r.desc=.slice el) (hq:T el=some q)
  (hz:(Nat.blt 0 q.size&&Nat.blt 0 q.bytes&&Nat.beq q.zero.cells.size q.size)=true) (hs:A0v q.size st' x=some (1,g)) (hg:g 0=enc y) (hb:(L.length+1) * q.bytes≤140737488355328)
  (hc:E8 el q.size enc L st sv st') (hk:∀ sv' st'',E8 el q.size enc (L++[y]) st sv' st''→k sv' st''):A5V T t sv x st' k:=by
 refine Col.app (f:=fun k=>enc ((L++[y]).getD k default)) hr hd hq hz hs (by show g 0=enc _;rw [C1D];exact hg) hb (Col.congr hc fun k hk=>by show enc _=enc _;rw [A4D hk]) (fun sv' st'' h=>hk sv' st'' ?_)
 unfold E8
 rw [D7p];exact h
theorem A0y {α : Type} [Inhabited α] {P:Program} {F:FuncId} {args:List AV} {st:St} {ty e:Nat} {enc : α→AV} {L:List α} (h:S P F args st fun v st'=>E8 ty e enc L st v st'):S P F args st fun v st'=>v=A8 e enc L∧st'=st:=C3t h
theorem E8.shift {α : Type} [Inhabited α] {ty e:Nat} {enc : α→AV} {L:List α} {st:St} {sv:AV} {st':St} (h:E8 ty e enc L st sv st'):A7 [sv] st' [A8 e enc L] st:=Col.shift h
theorem E8.sup {α : Type} [Inhabited α] {ty e:Nat} {enc : α→AV} {L:List α} {st:St} {sv:AV} {st':St} (h:E8 ty e enc L st sv st'):F8 st st':=Col.sup h
theorem A1q {α β : Type} [Inhabited α] {l:List α} {i:Nat} (h:i<l.length) (g : α→β):(l.take (i+1)).map g=(l.take i).map g++[g (l.getD i default)]:=by rw [L6 h,D7M];rfl
end Go.Ab
namespace Go.Proofs.YtaapofnkmpiknaaGreat
open Go Go.Ab
attribute [local irreducible] upd del
def chr (s:C8) (i:Nat):Int:=if h:i<s.size then ((s[i]'h).toNat:Int) else 0
theorem C8Z {s:C8} {i:Nat} {j:Int} (hj:j.toNat=i) (h:j.toNat<s.size):((s[j.toNat]'h).toNat:Int)=chr s i:=by
 subst hj;unfold chr;rw [dif_pos h]
theorem C7a {s:C8} {j:Int} {k:AV→Prop} {i:Nat} (hj:j=i) (hi:i<s.size) (hk:k (.int .u8 (chr s i))):D0y s j k:=by
 refine ⟨⟨by omega,by omega⟩,?_⟩
 rw [C8Z (i:=i) (by omega) (by omega)]
 exact hk
def okc (c:Int):Bool:=c==45||(decide (48≤c)&&decide (c≤57))||(decide (97≤c)&&decide (c≤122))
theorem B1f (c:Int):okc c=true↔c=45∨(48≤c∧c≤57)∨(97≤c∧c≤122):=by
 simp [okc,or_assoc]
def C6 (s:C8):Bool:=decide (1≤s.size)&&decide (s.size≤12)&&(List.range s.size).all fun i=>okc (chr s i)
theorem A6W {n:Nat} {p:Nat→Bool} (h:∀ k,k<n→p k=true):(List.range n).all p=true:=D7s.2 fun k hk=>h k (D7t.1 hk)
theorem A4G {n k:Nat} {p:Nat→Bool} (hk:k<n) (h:p k=false):(List.range n).all p=false:=by
 rw [D8O];intro e;rw [D7s.1 e k (D7t.2 hk)] at h;cases h
theorem A4k (s:C8) (st:St):S P 119 [eS s] st fun v st'=>v=.bool (C6 s)∧st'=st:=by
 refine F7 [] Tryz.func119 ?_
 cases h1:decide ((s.size:Int)<1)
 ·conv=>whnf
  cases h2:decide ((s.size:Int)>12)
  ·have g1:=D7g h1
   have g2:=D7g h2
   have hn:C6 s=(List.range s.size).all fun i=>okc (chr s i):=by
    unfold C6
    rw [D7D (by omega),D7D (by omega)];rfl
   conv=>whnf
   refine ⟨[0,14,15],fun m vs st'=>∃ i:Nat,i≤s.size∧(∀ k,k<i→okc (chr s k)=true)∧m=s.size - i∧vs=[eS s,eI s.size,eI i]∧st'=st,?_,?_⟩
   ·conv=>whnf
    exact ⟨_,0,D7C _,fun k hk=>absurd hk (by omega),rfl,rfl,rfl⟩
   ·rintro m vs st' ⟨i,hi,hok,rfl,rfl,rfl⟩
    conv=>whnf
    cases h3:decide ((i:Int)<(s.size:Int))
    ·have:=D7g h3
     conv=>whnf
     refine ⟨?_,rfl⟩
     rw [hn,A6W fun k hk=>hok k (by omega)];rfl
    ·have hlt:i<s.size:=by have:=D7h h3;omega
     conv=>whnf
     refine C7a (i:=i) rfl hlt ?_
     have yes:okc (chr s i)=true→∀ k,k<i+1→okc (chr s k)=true:=fun h k hk=>by
      rcases D7Y.1 hk with h' | h'
      ·exact hok k h'
      ·rw [h'];exact h
     have no:okc (chr s i)=false→C6 s=false:=fun h=>by rw [hn];exact A4G hlt h
     generalize chr s i=c at *
     repeat' ((conv=>whnf);refine B7 (fun h=>?_) (fun h=>?_)<;>rw [h])
     all_goals (conv=>whnf)
     all_goals first
      | (refine ⟨?_,rfl⟩
         rw [no (by rw [←D8h,B1f];simp only [D9F,ne_eq,D7d,D7e,bne_eq_false_iff_eq] at *;omega)]
         rfl)
      | (refine ⟨rfl,?_⟩
         conv=>whnf
         exact ⟨s.size - (i+1),by omega,i+1,by omega,yes ((B1f c).2 (by simp only [D9F,ne_eq,D7d,D7e,bne_eq_false_iff_eq] at *;omega)),rfl,by rw [B4 (by omega)],rfl⟩)
  ·have g2:=D7h h2
   conv=>whnf
   refine ⟨?_,rfl⟩
   unfold C6
   rw [D7j (show ¬ s.size≤12 by omega),D7H];rfl
 ·have g1:=D7h h1
  conv=>whnf
  refine ⟨?_,rfl⟩
  unfold C6
  rw [D7j (show ¬ 1≤s.size by omega)];rfl
theorem A7i (x:Int) (st:St):S P 72 [eI x] st fun v st'=>v=.bool (decide (0≤x)&&decide (x≤100000000000000))∧st'=st:=by
 refine F7 [] Tryz.func72 ?_
 cases h:decide (x≥0)
 ·conv=>whnf
  have h':decide (0≤x)=false:=h
  exact ⟨by simp [B0O,h'],rfl⟩
 ·conv=>whnf
  have h':decide (0≤x)=true:=h
  exact ⟨by simp [B0O,h'],rfl⟩
def slt (a b:C8):Bool:=Op.bytesLess a.toList b.toList
def P7 (l:List C8) (k:Nat):Bool:=k==0||slt (l.getD (k - 1) default) (l.getD k default)
def A0H (l:List C8):Bool:=(List.range l.length).all (P7 l)
theorem B2J (l:List C8) (hl:l.length≤9223372036854775807) (st:St):S P 170 [D5 l] st fun v st'=>v=.bool (A0H l)∧st'=st:=by
 refine F7 [] Tryz.func170 ?_
 refine ⟨[0,5,6],fun m vs st'=>∃ i:Nat,i≤l.length∧(∀ k,k<i→P7 l k=true)∧m=l.length - i∧vs=[D5 l,eI l.length,eI i]∧st'=st,?_,?_⟩
 ·conv=>whnf
  exact ⟨_,0,D7C _,fun k hk=>absurd hk (by omega),rfl,rfl,rfl⟩
 ·rintro m vs st' ⟨i,hi,hok,rfl,rfl,rfl⟩
  conv=>whnf
  cases h:decide ((i:Int)<(l.length:Int))
  ·have:=D7g h
   conv=>whnf
   refine ⟨?_,rfl⟩
   unfold A0H
   rw [A6W fun k hk=>hok k (by omega)];rfl
  ·have hi':i<l.length:=by have:=D7h h;omega
   have yes:P7 l i=true→∀ k,k<i+1→P7 l k=true:=fun h k hk=>by
    rcases D7Y.1 hk with h' | h'
    ·exact hok k h'
    ·rw [h'];exact h
   conv=>whnf
   refine ⟨[],[],[0,1,2,3,4,5,6,7,8,9,10,11,12,13],by kernel_rfl,?_⟩;conv=>whnf
   cases h2:decide ((i:Int)>0)
   ·have h0:i=0:=by have:=D7g h2;omega
    conv=>whnf
    refine G3 ?_
    exact ⟨l.length - (i+1),by omega,i+1,by omega,yes (by unfold P7;rw [h0];rfl),rfl,by rw [B4 (by omega)],rfl⟩
   ·have hp:0<i:=by have:=D7h h2;omega
    have hw:IntKind.i64.wrap ((i:Int) - 1)=((i - 1:Nat):Int):=by rw [A4 (by omega) (by omega)];omega
    have e:P7 l i=Op.bytesLess (l.getD ((i - 1:Nat):Int).toNat default).toList (l.getD (i:Int).toNat default).toList:=by
     unfold P7 slt
     rw [D7q,D7q,D8Q (by omega),D7R]
    conv=>whnf
    refine ⟨rfl,⟨by omega,by omega⟩,?_⟩
    rw [hw];conv=>whnf
    refine E9 ?_
    cases h3:Op.bytesLess (l.getD ((i - 1:Nat):Int).toNat default).toList (l.getD (i:Int).toNat default).toList
    ·conv=>whnf
     refine ⟨?_,rfl⟩
     unfold A0H
     rw [A4G hi' (by rw [e,h3])];rfl
    ·conv=>whnf
     refine G3 ?_
     exact ⟨l.length - (i+1),by omega,i+1,by omega,yes (by rw [e,h3]),rfl,by rw [B4 (by omega)],rfl⟩
def idx {α : Type} (p : α→Bool):List α→Int
 | []=>-1
 | x::l=>if p x then 0 else if idx p l<0 then -1 else idx p l+1
theorem U8 {α : Type} [Inhabited α] {p : α→Bool}:∀ {l:List α},(∀ k,k<l.length→p (l.getD k default)=false)→idx p l = -1
 | [],_=>rfl
 | x::l,h=>by
  have h0:=h 0 (by simp)
  have ih:=U8 (l:=l) (fun k hk=>h (k+1) (by simpa using hk))
  simp only [E0b] at h0
  simp [idx,h0,ih]
theorem A1V {α : Type} [Inhabited α] {p : α→Bool}:∀ {l:List α} {i:Nat},i<l.length→(∀ k,k<i→p (l.getD k default)=false)→p (l.getD i default)=true→idx p l=i
 | [],i,hi,_,_=>by simp at hi
 | x::l,0,_,_,h=>by
  simp only [E0b] at h
  simp [idx,h]
 | x::l,i+1,hi,hk,h=>by
  have h0:=hk 0 (by omega)
  simp only [E0b] at h0
  have ih:=A1V (l:=l) (i:=i) (by simpa using hi) (fun k hk'=>hk (k+1) (by omega)) (by simpa using h)
  simp only [idx,h0,ih]
  rw [if_neg (by simp),if_neg (by omega)];omega
theorem A9G {α : Type} (p : α→Bool):∀ l:List α,-1≤idx p l∧idx p l<l.length
 | []=>by simp [idx]
 | x::l=>by
  have:=A9G p l
  simp only [idx,D7N]
  split
  ·omega
  ·split<;>omega
theorem B6G {α : Type} (p : α→Bool):∀ l:List α,0≤idx p l↔l.any p=true
 | []=>by simp [idx]
 | x::l=>by
  have ih:=B6G p l
  have hb:=A9G p l
  have e:idx p (x::l)=if p x then 0 else if idx p l<0 then -1 else idx p l+1:=rfl
  rw [e,List.any_cons]
  by_cases hx:p x=true
  ·rw [if_pos hx,hx];simp
  ·rw [if_neg hx,D8O.2 hx,D7R,←ih]
   split<;>omega
theorem A1U {α : Type} (p : α→Bool) (l:List α):decide (idx p l≥0)=l.any p:=by
 rw [E0g,D7d];exact B6G p l
theorem B5k (l:List C8) (hl:l.length≤9223372036854775807) (g:FuncId) (cs:List AV) (p:C8→Bool) (st:St)
  (hg:∀ x,x∈l→S P g (eS x::cs) st fun v st'=>v=.bool (p x)∧st'=st) :
  S P 341 [D5 l,.fn (.func g) [] cs] st fun v st'=>v=eI (idx p l)∧st'=st:=by
 refine F7 [] Tryz.func341 ?_
 refine ⟨[0,1,7,8],fun m vs st'=>∃ i:Nat,i≤l.length∧(∀ k,k<i→p (l.getD k default)=false)∧m=l.length - i∧vs=[D5 l,.fn (.func g) [] cs,eI l.length,eI i]∧st'=st,?_,?_⟩
 ·conv=>whnf
  exact ⟨_,0,D7C _,fun k hk=>absurd hk (by omega),rfl,rfl,rfl⟩
 ·rintro m vs st' ⟨i,hi,hok,rfl,rfl,rfl⟩
  conv=>whnf
  cases h:decide ((i:Int)<(l.length:Int))
  ·have:=D7g h
   conv=>whnf
   refine ⟨?_,rfl⟩
   rw [U8 fun k hk=>hok k (by omega)];rfl
  ·have hi':i<l.length:=by have:=D7h h;omega
   conv=>whnf
   refine E9 ?_
   refine B2 (hg (l.getD (i:Int).toNat default) (by simp [hi'])) ?_
   rw [D7q]
   cases hp:p (l.getD i default)
   ·conv=>whnf
    refine G3 ?_
    refine ⟨l.length - (i+1),by omega,i+1,by omega,fun k hk=>?_,rfl,by rw [B4 (by omega)],rfl⟩
    rcases D7Y.1 hk with h' | h'
    ·exact hok k h'
    ·rw [h'];exact hp
   ·conv=>whnf
    refine ⟨?_,rfl⟩
    rw [A1V hi' hok hp];rfl
theorem B8W (l:List C8) (hl:l.length≤9223372036854775807) (g:FuncId) (cs:List AV) (p:C8→Bool) (st:St)
  (hg:∀ x,x∈l→S P g (eS x::cs) st fun v st'=>v=.bool (p x)∧st'=st) :
  S P 330 [D5 l,.fn (.func g) [] cs] st fun v st'=>v=.bool (l.any p)∧st'=st:=by
 refine F7 [] Tryz.func330 ?_
 refine I3 (B5k l hl g cs p st hg) ?_
 refine ⟨?_,rfl⟩
 rw [←A1U];rfl
theorem B7Q (l:List C8) (hl:l.length≤9223372036854775807) (g:FuncId) (cs:List AV) (p:C8→Bool) (st:St)
  (hg:∀ x,x∈l→S P g (eS x::cs) st fun v st'=>v=.bool (p x)∧st'=st) :
  S P 221 [D5 l,.fn (.func g) [] cs] st fun v st'=>v=eI (idx p l)∧st'=st:=by
 refine F7 [] Tryz.func221 ?_
 refine ⟨[0,1,7,8],fun m vs st'=>∃ i:Nat,i≤l.length∧(∀ k,k<i→p (l.getD k default)=false)∧m=l.length - i∧vs=[D5 l,.fn (.func g) [] cs,eI l.length,eI i]∧st'=st,?_,?_⟩
 ·conv=>whnf
  exact ⟨_,0,D7C _,fun k hk=>absurd hk (by omega),rfl,rfl,rfl⟩
 ·rintro m vs st' ⟨i,hi,hok,rfl,rfl,rfl⟩
  conv=>whnf
  cases h:decide ((i:Int)<(l.length:Int))
  ·have:=D7g h
   conv=>whnf
   refine ⟨?_,rfl⟩
   rw [U8 fun k hk=>hok k (by omega)];rfl
  ·have hi':i<l.length:=by have:=D7h h;omega
   conv=>whnf
   refine E9 ?_
   refine B2 (hg (l.getD (i:Int).toNat default) (by simp [hi'])) ?_
   rw [D7q]
   cases hp:p (l.getD i default)
   ·conv=>whnf
    refine G3 ?_
    refine ⟨l.length - (i+1),by omega,i+1,by omega,fun k hk=>?_,rfl,by rw [B4 (by omega)],rfl⟩
    rcases D7Y.1 hk with h' | h'
    ·exact hok k h'
    ·rw [h'];exact hp
   ·conv=>whnf
    refine ⟨?_,rfl⟩
    rw [A1V hi' hok hp];rfl
theorem C2P (l:List C8) (hl:l.length≤9223372036854775807) (g:FuncId) (cs:List AV) (p:C8→Bool) (st:St)
  (hg:∀ x,x∈l→S P g (eS x::cs) st fun v st'=>v=.bool (p x)∧st'=st) :
  S P 171 [D5 l,.fn (.func g) [] cs] st fun v st'=>v=.bool (l.any p)∧st'=st:=by
 refine F7 [] Tryz.func171 ?_
 refine I3 (B7Q l hl g cs p st hg) ?_
 refine ⟨?_,rfl⟩
 rw [←A1U];rfl
theorem B3C (l:List B1) (hl:l.length≤9223372036854775807) (g:FuncId) (cs:List AV) (p:B1→Bool) (st:St)
  (hg:∀ x,x∈l→S P g (B8 x::cs) st fun v st'=>v=.bool (p x)∧st'=st) :
  S P 249 [A8 15 B8 l,.fn (.func g) [] cs] st fun v st'=>v=eI (idx p l)∧st'=st:=by
 refine F7 [] Tryz.func249 ?_
 refine ⟨[0,1,7,8],fun m vs st'=>∃ i:Nat,i≤l.length∧(∀ k,k<i→p (l.getD k default)=false)∧m=l.length - i∧vs=[A8 15 B8 l,.fn (.func g) [] cs,eI l.length,eI i]∧st'=st,?_,?_⟩
 ·conv=>whnf
  exact ⟨_,0,D7C _,fun k hk=>absurd hk (by omega),rfl,rfl,rfl⟩
 ·rintro m vs st' ⟨i,hi,hok,rfl,rfl,rfl⟩
  conv=>whnf
  cases h:decide ((i:Int)<(l.length:Int))
  ·have:=D7g h
   conv=>whnf
   refine ⟨?_,rfl⟩
   rw [U8 fun k hk=>hok k (by omega)];rfl
  ·have hi':i<l.length:=by have:=D7h h;omega
   conv=>whnf
   refine E9 ?_
   refine B2 (hg (l.getD (i:Int).toNat default) (by simp [hi'])) ?_
   rw [D7q]
   cases hp:p (l.getD i default)
   ·conv=>whnf
    refine G3 ?_
    refine ⟨l.length - (i+1),by omega,i+1,by omega,fun k hk=>?_,rfl,by rw [B4 (by omega)],rfl⟩
    rcases D7Y.1 hk with h' | h'
    ·exact hok k h'
    ·rw [h'];exact hp
   ·conv=>whnf
    refine ⟨?_,rfl⟩
    rw [A1V hi' hok hp];rfl
theorem B7n (l:List B1) (hl:l.length≤9223372036854775807) (g:FuncId) (cs:List AV) (p:B1→Bool) (st:St)
  (hg:∀ x,x∈l→S P g (B8 x::cs) st fun v st'=>v=.bool (p x)∧st'=st) :
  S P 197 [A8 15 B8 l,.fn (.func g) [] cs] st fun v st'=>v=.bool (l.any p)∧st'=st:=by
 refine F7 [] Tryz.func197 ?_
 refine I3 (B3C l hl g cs p st hg) ?_
 refine ⟨?_,rfl⟩
 rw [←A1U];rfl
theorem B5o (l:List A2H) (hl:l.length≤9223372036854775807) (g:FuncId) (cs:List AV) (p:A2H→Bool) (st:St)
  (hg:∀ x,x∈l→S P g (A1L x::cs) st fun v st'=>v=.bool (p x)∧st'=st) :
  S P 308 [A8 3 A1L l,.fn (.func g) [] cs] st fun v st'=>v=eI (idx p l)∧st'=st:=by
 refine F7 [] Tryz.func308 ?_
 refine ⟨[0,1,7,8],fun m vs st'=>∃ i:Nat,i≤l.length∧(∀ k,k<i→p (l.getD k default)=false)∧m=l.length - i∧vs=[A8 3 A1L l,.fn (.func g) [] cs,eI l.length,eI i]∧st'=st,?_,?_⟩
 ·conv=>whnf
  exact ⟨_,0,D7C _,fun k hk=>absurd hk (by omega),rfl,rfl,rfl⟩
 ·rintro m vs st' ⟨i,hi,hok,rfl,rfl,rfl⟩
  conv=>whnf
  cases h:decide ((i:Int)<(l.length:Int))
  ·have:=D7g h
   conv=>whnf
   refine ⟨?_,rfl⟩
   rw [U8 fun k hk=>hok k (by omega)];rfl
  ·have hi':i<l.length:=by have:=D7h h;omega
   conv=>whnf
   refine E9 ?_
   refine B2 (hg (l.getD (i:Int).toNat default) (by simp [hi'])) ?_
   rw [D7q]
   cases hp:p (l.getD i default)
   ·conv=>whnf
    refine G3 ?_
    refine ⟨l.length - (i+1),by omega,i+1,by omega,fun k hk=>?_,rfl,by rw [B4 (by omega)],rfl⟩
    rcases D7Y.1 hk with h' | h'
    ·exact hok k h'
    ·rw [h'];exact hp
   ·conv=>whnf
    refine ⟨?_,rfl⟩
    rw [A1V hi' hok hp];rfl
theorem B9d (l:List A2H) (hl:l.length≤9223372036854775807) (g:FuncId) (cs:List AV) (p:A2H→Bool) (st:St)
  (hg:∀ x,x∈l→S P g (A1L x::cs) st fun v st'=>v=.bool (p x)∧st'=st) :
  S P 279 [A8 3 A1L l,.fn (.func g) [] cs] st fun v st'=>v=.bool (l.any p)∧st'=st:=by
 refine F7 [] Tryz.func279 ?_
 refine I3 (B5o l hl g cs p st hg) ?_
 refine ⟨?_,rfl⟩
 rw [←A1U];rfl
theorem B5b (l:List Ab.Item) (hl:l.length≤9223372036854775807) (g:FuncId) (cs:List AV) (p:Ab.Item→Bool) (st:St)
  (hg:∀ x,x∈l→S P g (F2 x::cs) st fun v st'=>v=.bool (p x)∧st'=st) :
  S P 175 [A8 4 F2 l,.fn (.func g) [] cs] st fun v st'=>v=eI (idx p l)∧st'=st:=by
 refine F7 [] Tryz.func175 ?_
 refine ⟨[0,1,7,8],fun m vs st'=>∃ i:Nat,i≤l.length∧(∀ k,k<i→p (l.getD k default)=false)∧m=l.length - i∧vs=[A8 4 F2 l,.fn (.func g) [] cs,eI l.length,eI i]∧st'=st,?_,?_⟩
 ·conv=>whnf
  exact ⟨_,0,D7C _,fun k hk=>absurd hk (by omega),rfl,rfl,rfl⟩
 ·rintro m vs st' ⟨i,hi,hok,rfl,rfl,rfl⟩
  conv=>whnf
  cases h:decide ((i:Int)<(l.length:Int))
  ·have:=D7g h
   conv=>whnf
   refine ⟨?_,rfl⟩
   rw [U8 fun k hk=>hok k (by omega)];rfl
  ·have hi':i<l.length:=by have:=D7h h;omega
   conv=>whnf
   refine E9 ?_
   refine B2 (hg (l.getD (i:Int).toNat default) (by simp [hi'])) ?_
   rw [D7q]
   cases hp:p (l.getD i default)
   ·conv=>whnf
    refine G3 ?_
    refine ⟨l.length - (i+1),by omega,i+1,by omega,fun k hk=>?_,rfl,by rw [B4 (by omega)],rfl⟩
    rcases D7Y.1 hk with h' | h'
    ·exact hok k h'
    ·rw [h'];exact hp
   ·conv=>whnf
    refine ⟨?_,rfl⟩
    rw [A1V hi' hok hp];rfl
theorem B7R (l:List C8) (hl:l.length≤9223372036854775807) (v:C8) (st:St) :
  S P 268 [D5 l,eS v] st fun r st'=>r=eI (idx (fun y:C8=>v.toList==y.toList) l)∧st'=st:=by
 refine F7 [] Tryz.func268 ?_
 refine ⟨[0,1,7,8],fun m vs st'=>∃ i:Nat,i≤l.length∧(∀ k,k<i→(v.toList==(l.getD k default).toList)=false)∧m=l.length - i∧vs=[D5 l,eS v,eI l.length,eI i]∧st'=st,?_,?_⟩
 ·conv=>whnf
  exact ⟨_,0,D7C _,fun k hk=>absurd hk (by omega),rfl,rfl,rfl⟩
 ·rintro m vs st' ⟨i,hi,hok,rfl,rfl,rfl⟩
  conv=>whnf
  cases h:decide ((i:Int)<(l.length:Int))
  ·have:=D7g h
   conv=>whnf
   refine ⟨?_,rfl⟩
   rw [U8 (p:=fun y:C8=>v.toList==y.toList) fun k hk=>hok k (by omega)];rfl
  ·have hi':i<l.length:=by have:=D7h h;omega
   conv=>whnf
   refine ⟨rfl,⟨by omega,by omega⟩,?_⟩
   rw [D7q];conv=>whnf
   cases hp:(v.toList==(l.getD i default).toList)
   ·conv=>whnf
    refine G3 ?_
    refine ⟨l.length - (i+1),by omega,i+1,by omega,fun k hk=>?_,rfl,by rw [B4 (by omega)],rfl⟩
    rcases D7Y.1 hk with h' | h'
    ·exact hok k h'
    ·rw [h'];exact hp
   ·conv=>whnf
    refine ⟨?_,rfl⟩
    rw [A1V (p:=fun y:C8=>v.toList==y.toList) hi' hok hp];rfl
theorem C5N (l:List C8) (hl:l.length≤9223372036854775807) (v:C8) (st:St) :
  S P 231 [D5 l,eS v] st fun r st'=>r=.bool (l.any fun y:C8=>v.toList==y.toList)∧st'=st:=by
 refine F7 [] Tryz.func231 ?_
 refine I3 (B7R l hl v st) ?_
 refine ⟨?_,rfl⟩
 rw [←A1U];rfl
theorem B6H (l:List Int) (hl:l.length≤9223372036854775807) (v:Int) (st:St) :
  S P 283 [A9 l,eI v] st fun r st'=>r=eI (idx (fun y:Int=>v==y) l)∧st'=st:=by
 refine F7 [] Tryz.func283 ?_
 refine ⟨[0,1,7,8],fun m vs st'=>∃ i:Nat,i≤l.length∧(∀ k,k<i→(v==l.getD k default)=false)∧m=l.length - i∧vs=[A9 l,eI v,eI l.length,eI i]∧st'=st,?_,?_⟩
 ·conv=>whnf
  exact ⟨_,0,D7C _,fun k hk=>absurd hk (by omega),rfl,rfl,rfl⟩
 ·rintro m vs st' ⟨i,hi,hok,rfl,rfl,rfl⟩
  conv=>whnf
  cases h:decide ((i:Int)<(l.length:Int))
  ·have:=D7g h
   conv=>whnf
   refine ⟨?_,rfl⟩
   rw [U8 (p:=fun y:Int=>v==y) fun k hk=>hok k (by omega)];rfl
  ·have hi':i<l.length:=by have:=D7h h;omega
   conv=>whnf
   refine ⟨rfl,⟨by omega,by omega⟩,?_⟩
   rw [D7q];conv=>whnf
   cases hp:(v==l.getD i default)
   ·conv=>whnf
    refine G3 ?_
    refine ⟨l.length - (i+1),by omega,i+1,by omega,fun k hk=>?_,rfl,by rw [B4 (by omega)],rfl⟩
    rcases D7Y.1 hk with h' | h'
    ·exact hok k h'
    ·rw [h'];exact hp
   ·conv=>whnf
    refine ⟨?_,rfl⟩
    rw [A1V (p:=fun y:Int=>v==y) hi' hok hp];rfl
theorem C4j (l:List Int) (hl:l.length≤9223372036854775807) (v:Int) (st:St) :
  S P 250 [A9 l,eI v] st fun r st'=>r=.bool (l.any fun y:Int=>v==y)∧st'=st:=by
 refine F7 [] Tryz.func250 ?_
 refine I3 (B6H l hl v st) ?_
 refine ⟨?_,rfl⟩
 rw [←A1U];rfl
theorem B5l (l:List C8) (hl:l.length≤9223372036854775807) (v:C8) (st:St) :
  S P 343 [D5 l,eS v] st fun r st'=>r=eI (idx (fun y:C8=>v.toList==y.toList) l)∧st'=st:=by
 refine F7 [] Tryz.func343 ?_
 refine ⟨[0,1,7,8],fun m vs st'=>∃ i:Nat,i≤l.length∧(∀ k,k<i→(v.toList==(l.getD k default).toList)=false)∧m=l.length - i∧vs=[D5 l,eS v,eI l.length,eI i]∧st'=st,?_,?_⟩
 ·conv=>whnf
  exact ⟨_,0,D7C _,fun k hk=>absurd hk (by omega),rfl,rfl,rfl⟩
 ·rintro m vs st' ⟨i,hi,hok,rfl,rfl,rfl⟩
  conv=>whnf
  cases h:decide ((i:Int)<(l.length:Int))
  ·have:=D7g h
   conv=>whnf
   refine ⟨?_,rfl⟩
   rw [U8 (p:=fun y:C8=>v.toList==y.toList) fun k hk=>hok k (by omega)];rfl
  ·have hi':i<l.length:=by have:=D7h h;omega
   conv=>whnf
   refine ⟨rfl,⟨by omega,by omega⟩,?_⟩
   rw [D7q];conv=>whnf
   cases hp:(v.toList==(l.getD i default).toList)
   ·conv=>whnf
    refine G3 ?_
    refine ⟨l.length - (i+1),by omega,i+1,by omega,fun k hk=>?_,rfl,by rw [B4 (by omega)],rfl⟩
    rcases D7Y.1 hk with h' | h'
    ·exact hok k h'
    ·rw [h'];exact hp
   ·conv=>whnf
    refine ⟨?_,rfl⟩
    rw [A1V (p:=fun y:C8=>v.toList==y.toList) hi' hok hp];rfl
theorem C1S (l:List C8) (hl:l.length≤9223372036854775807) (v:C8) (st:St) :
  S P 333 [D5 l,eS v] st fun r st'=>r=.bool (l.any fun y:C8=>v.toList==y.toList)∧st'=st:=by
 refine F7 [] Tryz.func333 ?_
 refine I3 (B5l l hl v st) ?_
 refine ⟨?_,rfl⟩
 rw [←A1U];rfl
theorem C1U (s:C8) (st:St):S P 331 [eS s] st fun v st'=>v=.bool (!C6 s)∧st'=st:=by
 refine F7 [] Tryz.func331 ?_
 refine I3 (A4k s st) ?_
 exact ⟨rfl,rfl⟩
def A1e (l:List C8):Bool:=A0H l&&!(l.any fun s=>!C6 s)
theorem C0z (l:List C8) (hl:l.length≤9223372036854775807) (st:St):S P 309 [D5 l] st fun v st'=>v=.bool (decide (l.length≤20)&&A1e l)∧st'=st:=by
 refine F7 [] Tryz.func309 ?_
 cases h:decide ((l.length:Int)≤20)
 ·have g:=D7g h
  conv=>whnf
  refine ⟨?_,rfl⟩
  rw [D7j (show ¬ l.length≤20 by omega)];rfl
 ·have g:=D7h h
  have e:decide (l.length≤20)=true:=D7D (by omega)
  conv=>whnf
  refine B2 (B2J l hl st) ?_
  unfold A1e
  cases hr:A0H l
  ·conv=>whnf
   exact ⟨by rw [e];rfl,rfl⟩
  ·conv=>whnf
   refine I3 (B8W l hl _ [] (fun s=>!C6 s) st fun x _=>C1U x st) ?_
   exact ⟨by rw [e];rfl,rfl⟩
def A0I (s:Z4):Bool:=(decide (s.skus.length≤20)&&A1e s.skus)&&(decide (s.cats.length≤20)&&A1e s.cats)
theorem C0M (s:Z4) (h1:s.skus.length≤9223372036854775807) (h2:s.cats.length≤9223372036854775807) (st:St):S P 281 [A4h s] st fun v st'=>v=.bool (A0I s)∧st'=st:=by
 refine F7 [1] Tryz.func281 ?_
 refine B2 (C0z _ h1 st) ?_
 unfold A0I
 cases hr:(decide (s.skus.length≤20)&&A1e s.skus)
 ·conv=>whnf
  exact ⟨rfl,rfl⟩
 ·conv=>whnf
  refine I3 (C0z _ h2 st) ?_
  exact ⟨rfl,rfl⟩
end Go.Proofs.YtaapofnkmpiknaaGreat
namespace Go.Ab
open Go
theorem A2j (x:Int):x.fdiv (2 ^ min (Int.toNat 32) IntKind.u64.bits)=x / 4294967296:=by
 show x.fdiv 4294967296=_
 exact D9c x (by decide)
theorem C4v (x:Int):IntKind.u64.wrap ↑(BitVec.ofInt IntKind.u64.bits x &&& BitVec.ofInt IntKind.u64.bits 4294967295).toNat=x % 4294967296:=by
 have h1:(BitVec.ofInt IntKind.u64.bits x &&& BitVec.ofInt IntKind.u64.bits 4294967295).toNat=(x % 18446744073709551616).toNat % 4294967296:=by
  show (BitVec.ofInt 64 x &&& BitVec.ofInt 64 4294967295).toNat=_
  rw [BitVec.toNat_and,BitVec.toNat_ofInt,BitVec.toNat_ofInt]
  have:(4294967295 % ((2 ^ 64:Nat):Int)).toNat=2 ^ 32 - 1:=by decide
  rw [this,Nat.and_two_pow_sub_one_eq_mod]
  rfl
 rw [h1]
 show (((x % 18446744073709551616).toNat % 4294967296:Nat):Int) % 18446744073709551616=_
 omega
theorem xy4 (x y:Int):x * y=(x / 4294967296 * (y / 4294967296)) * 18446744073709551616+(x / 4294967296 * (y % 4294967296)) * 4294967296+(x % 4294967296 * (y / 4294967296)) * 4294967296+x % 4294967296 * (y % 4294967296):=by
 have hx:=D8j x 4294967296
 have hy:=D8j y 4294967296
 generalize x / 4294967296=a at *
 generalize x % 4294967296=b at *
 generalize y / 4294967296=c at *
 generalize y % 4294967296=d at *
 subst hx hy
 rw [D9H,D9p,D9p]
 have e1:4294967296 * a * (4294967296 * c)=a * c * 18446744073709551616:=by
  rw [D9W,←D9W a,D9q a 4294967296,D9W,←D9W];omega
 have e2:4294967296 * a * d=a * d * 4294967296:=by rw [D9W,D9q]
 have e3:b * (4294967296 * c)=b * c * 4294967296:=by rw [D9q 4294967296 c,D9W]
 omega
theorem C7i {a b:Int} (ha:0≤a) (ha':a≤4294967295) (hb:0≤b) (hb':b≤4294967295):0≤a * b∧a * b≤18446744065119617025 :=
 ⟨D8H ha hb,D9X (D9z ha' hb' hb (by decide)) (by decide)⟩
end Go.Ab
namespace Go.Proofs.YtaapofnkmpiknaaGreat
open Go Go.Ab
attribute [local irreducible] upd del
theorem C0x (x y:Int) (hx:0≤x∧x<18446744073709551616) (hy:0≤y∧y<18446744073709551616) (st:St):S P 205 [.int .u64 x,.int .u64 y] st fun v st'=>v=.tuple [.int .u64 (x * y / 18446744073709551616),.int .u64 (x * y % 18446744073709551616)]∧st'=st:=by
 refine F7 [] Tryz.func205 ?_
 refine ⟨?_,rfl⟩
 have h4:=xy4 x y
 simp only [A2j,C4v,B0O]
 have b1:=C7i (a:=x / 4294967296) (b:=y / 4294967296) (by omega) (by omega) (by omega) (by omega)
 have b2:=C7i (a:=x / 4294967296) (b:=y % 4294967296) (by omega) (by omega) (by omega) (by omega)
 have b3:=C7i (a:=x % 4294967296) (b:=y / 4294967296) (by omega) (by omega) (by omega) (by omega)
 have b4:=C7i (a:=x % 4294967296) (b:=y % 4294967296) (by omega) (by omega) (by omega) (by omega)
 have e1:IntKind.u64.wrap (x * y)=x * y % 18446744073709551616:=rfl
 rw [e1]
 generalize x / 4294967296 * (y / 4294967296)=p1 at *
 generalize x / 4294967296 * (y % 4294967296)=p2 at *
 generalize x % 4294967296 * (y / 4294967296)=p3 at *
 generalize x % 4294967296 * (y % 4294967296)=p4 at *
 generalize x * y=p at *
 have w:∀ z:Int,IntKind.u64.wrap z=z % 18446744073709551616:=fun _=>rfl
 simp only [w]
 congr 3
 congr 1
 omega
theorem E4 {x:Int} (h1:0≤x) (h2:x<18446744073709551616):IntKind.u64.wrap x=x:=by
 have w:IntKind.u64.wrap x=x % 18446744073709551616:=rfl
 rw [w];omega
def B1A (n:Nat) (x:Int):Prop:=x<2 ^ n∧(n=0∨(2:Int) ^ (n - 1)≤x)
def C8F (tab:C8):Bool:=decide (256≤tab.size)&&(List.range 256).all fun c=>Nat.ble (chr tab c).toNat 8&&Nat.blt c (2 ^ (chr tab c).toNat)&&(Nat.beq (chr tab c).toNat 0||Nat.ble (2 ^ ((chr tab c).toNat - 1)) c)
theorem A2N {tab:C8} {j:Int} {k:AV→Prop} (y:Nat) (hy:j=y) (hlt:y<256) (htab:C8F tab=true)
  (hk:∀ t:Nat,t≤8→B1A t y→k (.int .u8 t)):D0y tab j k:=by
 unfold C8F at htab
 rw [D7f] at htab
 obtain ⟨h1,h2⟩:=htab
 have h1:=D7h h1
 have h3:=D7s.1 h2 y (D7t.2 hlt)
 simp only [D7f,D8g,Nat.ble_eq,D9O,Nat.beq_eq] at h3
 obtain ⟨⟨h4,h5⟩,h6⟩:=h3
 refine C7a (i:=y) hy (by omega) ?_
 have hc:chr tab y=((chr tab y).toNat:Int):=by
  have:0≤chr tab y:=by unfold chr;split<;>omega
  omega
 rw [hc]
 refine hk _ h4 ⟨?_,?_⟩
 ·exact_mod_cast h5
 ·rcases h6 with h6 | h6
  ·exact .inl h6
  ·right;exact_mod_cast h6
theorem A0A {b t:Nat} {x y:Int} (hy:y=x / 2 ^ b) (ht:B1A t y) (h0:b=0∨0<y):B1A (b+t) x:=by
 obtain ⟨h1,h2⟩:=ht
 have hp:(0:Int)<2 ^ b:=Int.pow_pos (by decide)
 have hm:=D8j x (2 ^ b)
 have hl:=D8t x hp
 have hn:=D8F x (Int.ne_of_gt hp)
 rw [←hy] at hm
 refine ⟨?_,?_⟩
 ·rw [Int.pow_add]
  have:(2:Int) ^ b * (y+1)≤2 ^ b * 2 ^ t:=D7W (by omega) (E0h hp)
  rw [D9p,D9Z] at this
  omega
 ·rcases h2 with h2 | h2
  ·rcases h0 with h0 | h0
   ·left;omega
   ·subst h2;simp at h1;omega
  ·rcases D8w t with ht | ht
   ·subst ht
    simp at h1 h2
    omega
   ·right
    rw [show b+t - 1=b+(t - 1) by omega,Int.pow_add]
    have:(2:Int) ^ b * 2 ^ (t - 1)≤2 ^ b * y:=D7W h2 (E0h hp)
    omega
theorem A3j (x:Int):x.fdiv (2 ^ min (Int.toNat 16) IntKind.u64.bits)=x / 65536:=by
 show x.fdiv 65536=_
 exact D9c x (by decide)
theorem A7v (x:Int):x.fdiv (2 ^ min (Int.toNat 8) IntKind.u64.bits)=x / 256:=by
 show x.fdiv 256=_
 exact D9c x (by decide)
theorem A6N (x:Int):IntKind.u8.wrap x=x % 256:=rfl
theorem C7e (x:Int) (hx:0≤x∧x<18446744073709551616) (st:St):S P 284 [.int .u64 x] st fun v st'=>(∃ n:Nat,v=eI n∧n≤64∧B1A n x)∧st'=st:=by
 refine F7 [] Tryz.func284 ?_
 refine B7 (fun ha=>?_) (fun ha=>?_)<;>rw [ha]<;>(conv=>whnf)<;>refine B7 (fun hb=>?_) (fun hb=>?_)<;>rw [hb]<;>(conv=>whnf)<;>refine B7 (fun hc=>?_) (fun hc=>?_)<;>rw [hc]<;>(conv=>whnf)<;>have hh:=And.intro ha (And.intro hb hc)<;>clear ha hb hc
 ·simp only [A2j,A3j,A7v,D7d,D7e,ge_iff_le] at hh
  refine A2N (x / 72057594037927936).toNat ?_ ?_ (by kernel_rfl) (fun t ht hb=>?_)
  ·simp only [A2j,A3j,A7v,A6N];omega
  ·omega
  ·rw [D8S (by omega)] at hb;conv=>whnf
   refine ⟨⟨56+t,?_,by omega,A0A (b:=56) (y:=x / 72057594037927936) rfl hb (by omega)⟩,rfl⟩
   show AV.int .i64 _=AV.int .i64 _
   congr 1
   simp only [IntKind.wrap_i64]
   omega
 ·simp only [A2j,A3j,A7v,D7d,D7e,ge_iff_le] at hh
  refine A2N (x / 281474976710656).toNat ?_ ?_ (by kernel_rfl) (fun t ht hb=>?_)
  ·simp only [A2j,A3j,A7v,A6N];omega
  ·omega
  ·rw [D8S (by omega)] at hb;conv=>whnf
   refine ⟨⟨48+t,?_,by omega,A0A (b:=48) (y:=x / 281474976710656) rfl hb (by omega)⟩,rfl⟩
   show AV.int .i64 _=AV.int .i64 _
   congr 1
   simp only [IntKind.wrap_i64]
   omega
 ·simp only [A2j,A3j,A7v,D7d,D7e,ge_iff_le] at hh
  refine A2N (x / 1099511627776).toNat ?_ ?_ (by kernel_rfl) (fun t ht hb=>?_)
  ·simp only [A2j,A3j,A7v,A6N];omega
  ·omega
  ·rw [D8S (by omega)] at hb;conv=>whnf
   refine ⟨⟨40+t,?_,by omega,A0A (b:=40) (y:=x / 1099511627776) rfl hb (by omega)⟩,rfl⟩
   show AV.int .i64 _=AV.int .i64 _
   congr 1
   simp only [IntKind.wrap_i64]
   omega
 ·simp only [A2j,A3j,A7v,D7d,D7e,ge_iff_le] at hh
  refine A2N (x / 4294967296).toNat ?_ ?_ (by kernel_rfl) (fun t ht hb=>?_)
  ·simp only [A2j,A3j,A7v,A6N];omega
  ·omega
  ·rw [D8S (by omega)] at hb;conv=>whnf
   refine ⟨⟨32+t,?_,by omega,A0A (b:=32) (y:=x / 4294967296) rfl hb (by omega)⟩,rfl⟩
   show AV.int .i64 _=AV.int .i64 _
   congr 1
   simp only [IntKind.wrap_i64]
   omega
 ·simp only [A2j,A3j,A7v,D7d,D7e,ge_iff_le] at hh
  refine A2N (x / 16777216).toNat ?_ ?_ (by kernel_rfl) (fun t ht hb=>?_)
  ·simp only [A2j,A3j,A7v,A6N];omega
  ·omega
  ·rw [D8S (by omega)] at hb;conv=>whnf
   refine ⟨⟨24+t,?_,by omega,A0A (b:=24) (y:=x / 16777216) rfl hb (by omega)⟩,rfl⟩
   show AV.int .i64 _=AV.int .i64 _
   congr 1
   simp only [IntKind.wrap_i64]
   omega
 ·simp only [A2j,A3j,A7v,D7d,D7e,ge_iff_le] at hh
  refine A2N (x / 65536).toNat ?_ ?_ (by kernel_rfl) (fun t ht hb=>?_)
  ·simp only [A2j,A3j,A7v,A6N];omega
  ·omega
  ·rw [D8S (by omega)] at hb;conv=>whnf
   refine ⟨⟨16+t,?_,by omega,A0A (b:=16) (y:=x / 65536) rfl hb (by omega)⟩,rfl⟩
   show AV.int .i64 _=AV.int .i64 _
   congr 1
   simp only [IntKind.wrap_i64]
   omega
 ·simp only [A2j,A3j,A7v,D7d,D7e,ge_iff_le] at hh
  refine A2N (x / 256).toNat ?_ ?_ (by kernel_rfl) (fun t ht hb=>?_)
  ·simp only [A2j,A3j,A7v,A6N];omega
  ·omega
  ·rw [D8S (by omega)] at hb;conv=>whnf
   refine ⟨⟨8+t,?_,by omega,A0A (b:=8) (y:=x / 256) rfl hb (by omega)⟩,rfl⟩
   show AV.int .i64 _=AV.int .i64 _
   congr 1
   simp only [IntKind.wrap_i64]
   omega
 ·simp only [A2j,A3j,A7v,D7d,D7e,ge_iff_le] at hh
  refine A2N (x / 1).toNat ?_ ?_ (by kernel_rfl) (fun t ht hb=>?_)
  ·simp only [A2j,A3j,A7v,A6N];omega
  ·omega
  ·rw [D8S (by omega)] at hb;conv=>whnf
   refine ⟨⟨0+t,?_,by omega,A0A (b:=0) (y:=x / 1) rfl hb (by omega)⟩,rfl⟩
   show AV.int .i64 _=AV.int .i64 _
   congr 1
   simp only [IntKind.wrap_i64]
   omega
theorem C4q (x:Int) (hx:0≤x∧x<18446744073709551616) (st:St):S P 251 [.int .u64 x] st fun v st'=>(∃ n:Nat,v=eI ((64 - n:Nat):Int)∧n≤64∧B1A n x)∧st'=st:=by
 refine F7 [] Tryz.func251 ?_
 refine call (C7e x hx st) (fun v st' hv=>?_)
 obtain ⟨⟨n,rfl,hn,hb⟩,rfl⟩:=hv
 conv=>whnf
 refine ⟨⟨n,?_,hn,hb⟩,rfl⟩
 show AV.int .i64 _=AV.int .i64 _
 congr 1
 rw [IntKind.wrap_i64]
 omega
end Go.Proofs.YtaapofnkmpiknaaGreat
namespace Go.Ab
open Go
structure B0h (u n y1 y0 q r:Int):Prop where
 hu:u=q * y1+r
 hr:0≤r
 hq:(u * 4294967296+n) / (y1 * 4294967296+y0)≤q
 h0:0≤q
theorem B3W {u n y1 y0 q r:Int} (h:u=q * y1+r):u * 4294967296+n - q * (y1 * 4294967296+y0)=r * 4294967296+n - q * y0:=by
 subst h
 have e1:(q * y1+r) * 4294967296=q * y1 * 4294967296+r * 4294967296:=by omega
 have e2:q * (y1 * 4294967296+y0)=q * y1 * 4294967296+q * y0:=by rw [D9p,←D9W]
 omega
theorem C3U {u n y1 y0 q r:Int} (hy:0<y1 * 4294967296+y0) (h:u=q * y1+r) (hg:q * y0≤r * 4294967296+n):q≤(u * 4294967296+n) / (y1 * 4294967296+y0):=by
 have:=B3W (n:=n) (y0:=y0) h
 exact (Int.le_ediv_iff_mul_le hy).2 (by omega)
theorem B6y {u n y1 y0 q r:Int} (hy:0<y1 * 4294967296+y0) (h:u=q * y1+r) (hg:r * 4294967296+n<q * y0):(u * 4294967296+n) / (y1 * 4294967296+y0)<q:=by
 have:=B3W (n:=n) (y0:=y0) h
 exact (D8U hy).2 (by omega)
theorem B0o {u n y1 y0:Int} (hu:0≤u) (hn:0≤n) (hn':n<4294967296) (h1:2147483648≤y1) (h0:0≤y0) (h0':y0<4294967296) (hl:u<y1 * 4294967296+y0) :
  B0h u n y1 y0 (u / y1) (u - u / y1 * y1)∧u - u / y1 * y1<y1∧u / y1≤4294967297:=by
 have hm:=D8j u y1
 have hr:=D8F u (show y1≠0 by omega)
 have hr':=D8t u (show 0<y1 by omega)
 have hq:0≤u / y1:=D8R hu (by omega)
 have e:u - u / y1 * y1=u % y1:=by rw [D9q];omega
 refine ⟨⟨by omega,by omega,?_,hq⟩,by omega,?_⟩
 ·refine Int.le_of_lt_add_one ((D8U (by omega)).2 ?_)
  have a1:(u / y1+1) * (y1 * 4294967296)≤(u / y1+1) * (y1 * 4294967296+y0):=D7W (by omega) (by omega)
  have a2:(u / y1+1) * (y1 * 4294967296)=(y1 * (u / y1)+y1) * 4294967296:=by
   rw [←D9W,D9H,Int.one_mul,D9q y1]
  have a3:u+1≤y1 * (u / y1)+y1:=by omega
  omega
 ·refine Int.le_of_lt_add_one ((D8U (by omega)).2 ?_)
  have:(4294967297+1) * y1=y1 * 4294967296+2 * y1:=by omega
  omega
theorem B0h.step {u n y1 y0 q r:Int} (h:B0h u n y1 y0 q r) (hy1:0≤y1) (hg:(u * 4294967296+n) / (y1 * 4294967296+y0)<q) (hp:0≤(u * 4294967296+n) / (y1 * 4294967296+y0)):B0h u n y1 y0 (q - 1) (r+y1):=by
 obtain ⟨a,b,c,d⟩:=h
 refine ⟨?_,by omega,by omega,by omega⟩
 rw [Int.sub_mul,Int.one_mul];omega
theorem B0h.stop {u n y1 y0 q r:Int} (h:B0h u n y1 y0 q r) (hy:0<y1 * 4294967296+y0) (hg:q * y0≤r * 4294967296+n):q=(u * 4294967296+n) / (y1 * 4294967296+y0) :=
 Int.le_antisymm (C3U hy h.hu hg) h.hq
theorem B9P {U L Y:Int} (hY:0<Y) (hL:0≤L) :
  let q1:=(U * 4294967296+L / 4294967296) / Y
  let V:=(U * 4294967296+L / 4294967296) % Y
  let q0:=(V * 4294967296+L % 4294967296) / Y
  q1 * 4294967296+q0=(U * 18446744073709551616+L) / Y∧(V * 4294967296+L % 4294967296) % Y=(U * 18446744073709551616+L) % Y:=by
 intro q1 V q0
 have h1:Y * q1+V=U * 4294967296+L / 4294967296:=D8j _ Y
 have h2:Y * q0+(V * 4294967296+L % 4294967296) % Y=V * 4294967296+L % 4294967296:=D8j _ Y
 have h3:=D8F (V * 4294967296+L % 4294967296) (Int.ne_of_gt hY)
 have h4:=D8t (V * 4294967296+L % 4294967296) hY
 have h5:U * 18446744073709551616+L=(V * 4294967296+L % 4294967296) % Y+Y * (q1 * 4294967296+q0):=by
  rw [D9p,←D9W]
  omega
 rw [h5]
 constructor
 ·rw [Int.add_mul_ediv_left _ _ (Int.ne_of_gt hY),Int.ediv_eq_zero_of_lt h3 h4,Int.zero_add]
 ·rw [Int.add_mul_emod_self_left,Int.emod_emod]
theorem C2E {lo:Int} {s:Nat} (hs:s≤64):lo * 2 ^ s=(lo / 2 ^ (64 - s)) * 18446744073709551616+lo * 2 ^ s % 18446744073709551616:=by
 have e:(18446744073709551616:Int)=2 ^ (64 - s) * 2 ^ s:=by rw [←Int.pow_add,show 64 - s+s=64 by omega];rfl
 have hp:(0:Int)<2 ^ s:=Int.pow_pos (by decide)
 have:=D8j (lo * 2 ^ s) 18446744073709551616
 have h2:lo * 2 ^ s / 18446744073709551616=lo / 2 ^ (64 - s):=by
  rw [e,Int.mul_ediv_mul_of_pos_left _ _ hp]
 rw [h2] at this
 omega
theorem D0f {N y:Int} {s:Nat} (hy:0<y):N * 2 ^ s / (y * 2 ^ s)=N / y∧N * 2 ^ s % (y * 2 ^ s) / 2 ^ s=N % y:=by
 have hp:(0:Int)<2 ^ s:=Int.pow_pos (by decide)
 refine ⟨Int.mul_ediv_mul_of_pos_left _ _ hp,?_⟩
 rw [D9q N,D9q y,Int.mul_emod_mul_of_pos _ _ hp,Int.mul_ediv_cancel_left _ (Int.ne_of_gt hp)]
theorem C9w {a b:Int} {s:Nat} (ha:0≤a) (hb:0≤b) (hb':b<2 ^ s) (hab:a * 2 ^ s+b<18446744073709551616) :
  IntKind.u64.wrap ↑(BitVec.ofInt IntKind.u64.bits (a * 2 ^ s) ||| BitVec.ofInt IntKind.u64.bits b).toNat=a * 2 ^ s+b:=by
 obtain ⟨A,rfl⟩:=Int.eq_ofNat_of_zero_le ha
 obtain ⟨B,rfl⟩:=Int.eq_ofNat_of_zero_le hb
 have e1:((A:Int) * 2 ^ s)=((A * 2 ^ s:Nat):Int):=by rw [Int.natCast_mul,Int.natCast_pow];rfl
 have hB:B<2 ^ s:=by exact_mod_cast hb'
 have hA:A * 2 ^ s+B<18446744073709551616:=by rw [e1] at hab;generalize A * 2 ^ s=C at *;omega
 have h1:(BitVec.ofInt IntKind.u64.bits ((A:Int) * 2 ^ s) ||| BitVec.ofInt IntKind.u64.bits (B:Int)).toNat=A * 2 ^ s+B:=by
  rw [e1]
  show (BitVec.ofInt 64 ((A * 2 ^ s:Nat):Int) ||| BitVec.ofInt 64 (B:Int)).toNat=_
  rw [BitVec.ofInt_natCast,BitVec.ofInt_natCast,BitVec.toNat_or,BitVec.toNat_ofNat,BitVec.toNat_ofNat,E0c (by omega),E0c (by omega)]
  rw [←Nat.shiftLeft_eq,Nat.shiftLeft_add_eq_or_of_lt hB]
 rw [h1]
 have w:∀ z:Int,IntKind.u64.wrap z=z % 18446744073709551616:=fun _=>rfl
 rw [w,e1]
 omega
theorem B1K {U n Y q:Int} (hY:0<Y) (hY':Y<18446744073709551616) (hq:q=(U * 4294967296+n) / Y) :
  IntKind.u64.wrap (IntKind.u64.wrap (IntKind.u64.wrap (U * 4294967296)+n) - IntKind.u64.wrap (q * Y))=(U * 4294967296+n) % Y:=by
 have w:∀ z:Int,IntKind.u64.wrap z=z % 18446744073709551616:=fun _=>rfl
 have h1:=D8j (U * 4294967296+n) Y
 rw [←hq,D9q] at h1
 have h2:=D8F (U * 4294967296+n) (Int.ne_of_gt hY)
 have h3:=D8t (U * 4294967296+n) hY
 simp only [w]
 omega
end Go.Ab
namespace Go.Proofs.YtaapofnkmpiknaaGreat
open Go Go.Ab
attribute [local irreducible] upd del
set_option maxHeartbeats 2000000 in
theorem C0k (hi lo y:Int) (hh:0≤hi) (hl:0≤lo) (hl':lo<18446744073709551616) (hy:hi<y) (hy':y<18446744073709551616) (st:St) :
  S P 206 [.int .u64 hi,.int .u64 lo,.int .u64 y] st fun v st'=>v=.tuple [.int .u64 ((hi * 18446744073709551616+lo) / y),.int .u64 ((hi * 18446744073709551616+lo) % y)]∧st'=st:=by
 refine F7 [] Tryz.func206 ?_
 refine B7 (fun h=>?_) (fun h=>?_)
 ·simp at h;omega
 rw [h];conv=>whnf
 refine B7 (fun h=>?_) (fun h=>?_)
 ·simp at h;omega
 rw [h];conv=>whnf
 refine B7 (fun h=>?_) (fun h=>?_)
 ·rw [h];conv=>whnf
  refine ⟨[],[],[0,1,2,3,4,5,6,7],by kernel_rfl,?_⟩
  have hy0:decide (y=0)=false:=D7j (by omega)
  conv=>whnf
  rw [hy0];conv=>whnf
  rw [hy0];conv=>whnf
  have h0:hi=0:=by simpa using h
  have hq:0≤lo / y:=D8R hl (by omega)
  have hq':lo / y≤lo:=Int.ediv_le_self _ hl
  refine ⟨?_,rfl⟩
  show AV.tuple [AV.int .u64 _,AV.int .u64 _]=_
  rw [h0,E0i,Int.zero_add,D8L hl,D8M hl,E4 hq (by omega)]
 ·rw [h];conv=>whnf
  refine call (C4q y ⟨by omega,hy'⟩ st) (fun v st' hv=>?_)
  obtain ⟨⟨n,rfl,hn,hb1,hb2⟩,rfl⟩:=hv
  have hn1:1≤n:=by
   rcases D8w n with e | e
   ·subst e;simp at hb1;omega
   ·exact e
  have hb3:(2:Int) ^ (n - 1)≤y:=by rcases hb2 with e | e;omega;exact e
  generalize hs:64 - n=s
  have hs1:s≤63:=by omega
  have hsn:n=64 - s:=by omega
  have hp:(0:Int)<2 ^ s:=Int.pow_pos (by decide)
  have wS:IntKind.u64.wrap (s:Int)=(s:Int):=E4 (by omega) (by omega)
  have wM:min (s:Int).toNat IntKind.u64.bits=s:=by rw [D7q];show min s 64=s;omega
  have hY1:y * 2 ^ s<18446744073709551616:=by
   have:y * 2 ^ s<2 ^ n * 2 ^ s:=Int.mul_lt_mul_of_pos_right hb1 hp
   rw [←Int.pow_add,show n+s=64 by omega] at this
   exact this
  have hY2:9223372036854775808≤y * 2 ^ s:=by
   have:2 ^ (n - 1) * 2 ^ s≤y * 2 ^ s:=D9b hb3 (E0h hp)
   rw [←Int.pow_add,show n - 1+s=63 by omega] at this
   exact this
  have wY:IntKind.u64.wrap (y * 2 ^ s)=y * 2 ^ s:=E4 (by omega) hY1
  have w64:IntKind.u64.wrap (64 - (s:Int))=((64 - s:Nat):Int):=by rw [E4 (by omega) (by omega)];omega
  have wM2:min (((64 - s:Nat):Int)).toNat IntKind.u64.bits=64 - s:=by rw [D7q];show min (64 - s) 64=64 - s;omega
  have hH:hi * 2 ^ s<y * 2 ^ s:=Int.mul_lt_mul_of_pos_right hy hp
  have hH0:0≤hi * 2 ^ s:=D8H hh (E0h hp)
  have wH:IntKind.u64.wrap (hi * 2 ^ s)=hi * 2 ^ s:=E4 hH0 (by omega)
  have hp2:(0:Int)<2 ^ (64 - s):=Int.pow_pos (by decide)
  have wF:lo.fdiv (2 ^ (64 - s))=lo / 2 ^ (64 - s):=D9c lo (E0h hp2)
  have hT0:0≤lo / 2 ^ (64 - s):=D8R hl (E0h hp2)
  have hT:lo / 2 ^ (64 - s)<2 ^ s:=by
   refine (D8U hp2).2 ?_
   rw [←Int.pow_add,show s+(64 - s)=64 by omega];exact hl'
  have hU:hi * 2 ^ s+lo / 2 ^ (64 - s)<y * 2 ^ s:=by
   have:(hi+1) * 2 ^ s≤y * 2 ^ s:=D9b (by omega) (E0h hp)
   rw [D9H,Int.one_mul] at this
   omega
  have wO:=C9w (a:=hi) (b:=lo / 2 ^ (64 - s)) (s:=s) hh hT0 hT (by omega)
  conv=>whnf
  rw [wS,wM,wY,w64,D7j (show ¬((64 - s:Nat):Int)<0 by omega)];conv=>whnf
  rw [wH,wM2,wF,wO]
  rw [wM]
  have hsplit:=C2E (lo:=lo) (s:=s) (by omega)
  have wL:IntKind.u64.wrap (lo * 2 ^ s)=lo * 2 ^ s % 18446744073709551616:=rfl
  rw [wL]
  have hsc:=D0f (N:=hi * 18446744073709551616+lo) (y:=y) (s:=s) (by omega)
  have hL0:=D8F (lo * 2 ^ s) (show (18446744073709551616:Int)≠0 by decide)
  have hL1:=D8t (lo * 2 ^ s) (show (0:Int)<18446744073709551616 by decide)
  have hN:(hi * 18446744073709551616+lo) * 2 ^ s=(hi * 2 ^ s+lo / 2 ^ (64 - s)) * 18446744073709551616+lo * 2 ^ s % 18446744073709551616:=by
   rw [D9H,D9H,Int.mul_right_comm];omega
  rw [hN] at hsc
  have hU0:0≤hi * 2 ^ s+lo / 2 ^ (64 - s):=by omega
  have h2d:=B9P (U:=hi * 2 ^ s+lo / 2 ^ (64 - s)) (L:=lo * 2 ^ s % 18446744073709551616) (Y:=y * 2 ^ s) (by omega) hL0
  rw [hsc.1] at h2d
  clear wO wL hsplit hN
  generalize hi * 2 ^ s+lo / 2 ^ (64 - s)=U at *
  generalize lo * 2 ^ s % 18446744073709551616=L at *
  have hY1':y * 2 ^ s=y * 2 ^ s:=rfl
  generalize hYY:y * 2 ^ s=Y at *
  rw [A2j Y,C4v Y,A2j L,C4v L]
  clear wS w64 wM2 wH wF hH hT hT0 hH0 hp2 hY1' wY
  have eY:Y=Y / 4294967296 * 4294967296+Y % 4294967296:=by omega
  have a1:2147483648≤Y / 4294967296:=by omega
  have a1':Y / 4294967296≤4294967295:=by omega
  have a0:0≤Y % 4294967296:=by omega
  have a0':Y % 4294967296<4294967296:=by omega
  have b1:0≤L / 4294967296:=by omega
  have b1':L / 4294967296<4294967296:=by omega
  have b0:0≤L % 4294967296:=by omega
  have b0':L % 4294967296<4294967296:=by omega
  generalize Y / 4294967296=y1 at *
  generalize Y % 4294967296=y0 at *
  generalize L / 4294967296=n1 at *
  generalize L % 4294967296=n0 at *
  obtain ⟨d1,d2,d3⟩:=B0o hU0 b1 b1' a1 a0 a0' (show U<y1 * 4294967296+y0 by omega)
  have g0:0≤(U * 4294967296+n1) / (y1 * 4294967296+y0):=D8R (by omega) (by omega)
  have g1:(U * 4294967296+n1) / (y1 * 4294967296+y0)<4294967296:=(D8U (by omega)).2 (by omega)
  rw [D7j (show ¬ y1=0 by omega)];conv=>whnf
  have wq:IntKind.u64.wrap (U.tdiv y1)=U / y1:=by rw [D8L hU0];exact E4 d1.h0 (by omega)
  rw [wq]
  have hq1:=d1.hu
  have hr1:=d1.hr
  have wm:IntKind.u64.wrap (U / y1 * y1)=U / y1 * y1:=E4 (D8H d1.h0 (by omega)) (by omega)
  rw [wm]
  have wr:IntKind.u64.wrap (U - U / y1 * y1)=U - U / y1 * y1:=E4 hr1 (by omega)
  rw [wr]
  generalize hqq:U / y1=q at *
  generalize hrr:U - q * y1=r at *
  have eB:∀ q':Int,0≤q'→q'≤4294967296→0≤q' * y0∧q' * y0≤4294967296 * y0:=fun q' h1 h2=>⟨D8H h1 a0,D9b h2 a0⟩
  clear wq wm wr hqq hrr hq1 hr1
  refine ⟨[2,8,9,10,11,13,14,15,16],fun m vs st''=>∃ q r:Int,B0h U n1 y1 y0 q r∧r<4294967296∧q≤4294967297∧m=q.toNat∧vs=[.int .u64 Y,.int .u64 s,.int .u64 y1,.int .u64 y0,.int .u64 U,.int .u64 n1,.int .u64 n0,.int .u64 q,.int .u64 r]∧st''=st',?_,?_⟩
  ·conv=>whnf
   exact ⟨_,q,r,d1,by omega,d3,rfl,rfl,rfl⟩
  clear d1 d2 d3
  rintro m vs st'' ⟨q,r,d1A,d2A,d3A,rfl,rfl,rfl⟩
  have G0A:=g0
  have hr0A:=d1A.hr
  have hq0A:=d1A.h0
  conv=>whnf
  cases hcA:decide (q≥4294967296)
  case' true=>have dSA:=d1A.step (by omega) (by have:=D7h hcA;omega) G0A
  case' false =>
   have hc'A:=D7g hcA
   obtain ⟨e1A,e2A⟩:=eB q hq0A (by omega)
   conv=>whnf
   rw [E4 (x:=q * y0) e1A (by omega),E4 (x:=4294967296 * r) (by omega) (by omega),E4 (x:=4294967296 * r+n1) (by omega) (by omega)]
   rcases Classical.em (q * y0>4294967296 * r+n1) with hdA | hdA
  case' inl =>
   rw [D7D hdA]
   have dSA:=d1A.step (by omega) (B6y (by omega) d1A.hu (by omega)) G0A
  case' inl | true =>
   have hqpA:=dSA.h0
   conv=>whnf
   rw [E4 (x:=q - 1) (by omega) (by omega),E4 (x:=r+y1) (by omega) (by omega)]
   cases hbA:decide (r+y1≥4294967296)
  case' inl.false | true.false =>
   have:=D7g hbA
   conv=>whnf
   refine G3 ?_
   exact ⟨(q - 1).toNat,by omega,q - 1,r+y1,dSA,by omega,by omega,rfl,rfl,rfl⟩
  case' inr =>
   rw [D7j hdA]
   obtain ⟨qa,hqq⟩:∃ qa,qa=q:=⟨_,rfl⟩
   have EQA:qa=(U * 4294967296+n1) / Y:=by rw [hqq,eY];exact d1A.stop (by omega) (by omega)
  case' inl.true | true.true =>
   have:=D7h hbA
   obtain ⟨qa,hqq⟩:∃ qa,qa=q - 1:=⟨_,rfl⟩
   obtain ⟨e3A,e4A⟩:=eB (q - 1) (by omega) (by omega)
   have EQA:qa=(U * 4294967296+n1) / Y:=by rw [hqq,eY];exact dSA.stop (by omega) (by omega)
  all_goals
   conv=>whnf
   rw [←hqq]
   have eV:=B1K (Y:=Y) (by omega) hY1 EQA
   rw [eV]
   have hV0:=D8F (U * 4294967296+n1) (show Y≠0 by omega)
   have hV1:=D8t (U * 4294967296+n1) (show 0<Y by omega)
   clear eV
   dsimp only at h2d
   generalize (U * 4294967296+n1) % Y=V at *
   rw [D7j (show ¬ y1=0 by omega)];conv=>whnf
   obtain ⟨f1,f2,f3⟩:=B0o (u:=V) (n:=n0) hV0 b0 b0' a1 a0 a0' (by omega)
   have j0:0≤(V * 4294967296+n0) / (y1 * 4294967296+y0):=D8R (by omega) (by omega)
   have j1:(V * 4294967296+n0) / (y1 * 4294967296+y0)<4294967296:=(D8U (by omega)).2 (by omega)
   have wq:IntKind.u64.wrap (V.tdiv y1)=V / y1:=by rw [D8L hV0];exact E4 f1.h0 (by omega)
   rw [wq]
   have hq1:=f1.hu
   have hr1:=f1.hr
   have wm:IntKind.u64.wrap (V / y1 * y1)=V / y1 * y1:=E4 (D8H f1.h0 (by omega)) (by omega)
   rw [wm]
   have wr:IntKind.u64.wrap (V - V / y1 * y1)=V - V / y1 * y1:=E4 hr1 (by omega)
   rw [wr]
   generalize V / y1=qs at *
   generalize V - qs * y1=rs at *
   clear wq wm wr hq1 hr1
   conv=>whnf
   refine ⟨[2,8,9,10,11,13,14,15,16,17,18],fun m vs st3=>∃ q2 r2:Int,B0h V n0 y1 y0 q2 r2∧r2<4294967296∧q2≤4294967297∧m=q2.toNat∧vs=[.int .u64 Y,.int .u64 s,.int .u64 y1,.int .u64 y0,.int .u64 U,.int .u64 n1,.int .u64 n0,.int .u64 qa,.int .u64 r2,.int .u64 V,.int .u64 q2]∧st3=st'',?_,?_⟩
   ·conv=>whnf
    exact ⟨_,qs,rs,f1,by omega,f3,rfl,rfl,rfl⟩
   clear f1 f2 f3
   rintro m vs st3 ⟨q2,r2,d1B,d2B,d3B,rfl,rfl,rfl⟩
   have G0B:=j0
   have hr0B:=d1B.hr
   have hq0B:=d1B.h0
   conv=>whnf
   cases hcB:decide (q2≥4294967296)
   case' true=>have dSB:=d1B.step (by omega) (by have:=D7h hcB;omega) G0B
   case' false =>
    have hc'B:=D7g hcB
    obtain ⟨e1B,e2B⟩:=eB q2 hq0B (by omega)
    conv=>whnf
    rw [E4 (x:=q2 * y0) e1B (by omega),E4 (x:=4294967296 * r2) (by omega) (by omega),E4 (x:=4294967296 * r2+n0) (by omega) (by omega)]
    rcases Classical.em (q2 * y0>4294967296 * r2+n0) with hdB | hdB
   case' inl =>
    rw [D7D hdB]
    have dSB:=d1B.step (by omega) (B6y (by omega) d1B.hu (by omega)) G0B
   case' inl | true =>
    have hqpB:=dSB.h0
    conv=>whnf
    rw [E4 (x:=q2 - 1) (by omega) (by omega),E4 (x:=r2+y1) (by omega) (by omega)]
    cases hbB:decide (r2+y1≥4294967296)
   case' inl.false | true.false =>
    have:=D7g hbB
    conv=>whnf
    refine G3 ?_
    exact ⟨(q2 - 1).toNat,by omega,q2 - 1,r2+y1,dSB,by omega,by omega,rfl,rfl,rfl⟩
   case' inr =>
    rw [D7j hdB]
    obtain ⟨qb,hqq⟩:∃ qb,qb=q2:=⟨_,rfl⟩
    have EQB:qb=(V * 4294967296+n0) / Y:=by rw [hqq,eY];exact d1B.stop (by omega) (by omega)
   case' inl.true | true.true =>
    have:=D7h hbB
    obtain ⟨qb,hqq⟩:∃ qb,qb=q2 - 1:=⟨_,rfl⟩
    obtain ⟨e3B,e4B⟩:=eB (q2 - 1) (by omega) (by omega)
    have EQB:qb=(V * 4294967296+n0) / Y:=by rw [hqq,eY];exact dSB.stop (by omega) (by omega)
   all_goals
    conv=>whnf
    rw [←hqq]
    have eR:=B1K (U:=V) (n:=n0) (Y:=Y) (by omega) hY1 EQB
    conv=>whnf
    try rw [D7j (show ¬(s:Int)<0 by omega)]
    conv=>whnf
    rw [wM,eR]
    obtain ⟨k1,k2⟩:=h2d
    have r1:qa * 4294967296+qb=(hi * 18446744073709551616+lo) / y:=by rw [EQA,EQB];exact k1
    have r2:((V * 4294967296+n0) % Y).fdiv (2 ^ s)=(hi * 18446744073709551616+lo) % y:=by
     rw [D9c _ (E0h hp),k2];exact hsc.2
    have lq1:0≤qa∧qa<4294967296:=by rw [EQA,eY];exact ⟨g0,g1⟩
    have lq0:0≤qb∧qb<4294967296:=by rw [EQB,eY];exact ⟨j0,j1⟩
    refine ⟨?_,rfl⟩
    show AV.tuple [AV.int .u64 _,AV.int .u64 _]=_
    rw [E4 (x:=qa * 4294967296) (by omega) (by omega),E4 (x:=qa * 4294967296+qb) (by omega) (by omega),r1,r2]
def R3 (x:Int):Bool:=decide (0≤x)&&decide (x≤100000000000000)
theorem A0e (x:Int):R3 x=true↔0≤x∧x≤100000000000000:=by simp [R3]
def T8 (q r den round:Int):Int :=
 if round=0 then q
 else if round=1 then (if r≥den - r then q+1 else q)
 else (if r>den - r∨(r=den - r∧q % 2=1) then q+1 else q)
def V7 (x num den round:Int):Int×Int :=
 if (R3 x&&R3 num&&R3 den&&den != 0&&decide (0≤round)&&decide (round<3))=false then (0,2)
 else if x * num / den>100000000000000 then (0,5)
 else if T8 (x * num / den) (x * num % den) den round>100000000000000 then (0,5)
 else (T8 (x * num / den) (x * num % den) den round,0)
abbrev eU (x:Int):AV:=.int .u64 x
theorem C9f (q r d:Int) (st:St):S P 202 [.agg [eU q,eU r,eU d]] st fun v st'=>v=eU q∧st'=st:=by
 refine F7 [1] Tryz.func202 ?_
 exact ⟨rfl,rfl⟩
theorem D5O (q r d:Int) (hq:0≤q) (hq':q≤100000000000000) (hr:0≤r) (hr':r<d) (hd:d≤100000000000000) (st:St):S P 203 [.agg [eU q,eU r,eU d]] st fun v st'=>v=eU (if r≥d - r then q+1 else q)∧st'=st:=by
 refine F7 [1] Tryz.func203 ?_
 rw [E4 (x:=d - r) (by omega) (by omega)]
 refine B7 (fun h=>?_) (fun h=>?_)<;>rw [h]<;>simp only [D7d,D7e] at h
 ·conv=>whnf
  rw [E4 (x:=q+1) (by omega) (by omega)]
  exact ⟨by rw [if_pos h];rfl,rfl⟩
 ·conv=>whnf
  exact ⟨by rw [if_neg h];rfl,rfl⟩
theorem C9h (q r d:Int) (hq:0≤q) (hq':q≤100000000000000) (hr:0≤r) (hr':r<d) (hd:d≤100000000000000) (st:St):S P 204 [.agg [eU q,eU r,eU d]] st fun v st'=>v=eU (if r>d - r∨(r=d - r∧q % 2=1) then q+1 else q)∧st'=st:=by
 refine F7 [1] Tryz.func204 ?_
 have wd:IntKind.u64.wrap (d - r)=d - r:=E4 (by omega) (by omega)
 have w2:q.tmod 2=q % 2:=D8M hq
 repeat' ((conv=>whnf);refine B7 (fun h=>?_) (fun h=>?_)<;>rw [h])
 all_goals (conv=>whnf)
 all_goals (try rw [E4 (x:=q+1) (by omega) (by omega)])
 all_goals (refine ⟨?_,rfl⟩;show AV.int .u64 _=AV.int .u64 _;congr 1)
 all_goals (simp only [w2,wd,D7d,D7e,D7Z,D7P,ne_eq] at *)
 all_goals (split<;>omega)
theorem B5W (x num den round:Int) (st:St):S P 149 [eI x,eI num,eI den,eI round] st fun v st'=>v=.tuple [eI (V7 x num den round).1,eI (V7 x num den round).2]∧st'=st:=by
 refine SyW [10] Tryz.func149 ?_
 repeat' ((conv=>whnf);first | refine B2 (A7i _ st) ?_ | (refine B7 (fun h=>?_) (fun h=>?_)<;>rw [h]))
 all_goals (conv=>whnf)
 all_goals first
  | (refine ⟨?_,rfl⟩
     have e:(R3 x&&R3 num&&R3 den&&den != 0&&decide (0≤round)&&decide (round<3))=false:=by
      rw [←D8h]
      intro hh
      simp only [R3,D7f,D7v,D7J,D9F,ne_eq,D7d,D7e,D7Z,D7P,D9k] at *
      omega
     rw [show V7 x num den round=(0,2) from if_pos e];rfl)
  | skip
 have e:¬(R3 x&&R3 num&&R3 den&&den != 0&&decide (0≤round)&&decide (round<3))=false:=by
  rw [D9y]
  simp only [R3,D7f,D7v,D7J,D9F,ne_eq,D7d,D7e,D7Z,D7P,D9k] at *
  omega
 have hb:=D9y _▸e
 simp only [R3,D7f,D9F,ne_eq,D7d] at hb
 obtain ⟨⟨⟨⟨⟨⟨x0,x1⟩,n0,n1⟩,d0,d1⟩,d2⟩,r0⟩,r1⟩:=hb
 have wx:IntKind.u64.wrap x=x:=E4 (by omega) (by omega)
 have wn:IntKind.u64.wrap num=num:=E4 (by omega) (by omega)
 have wd:IntKind.u64.wrap den=den:=E4 (by omega) (by omega)
 rw [wx,wn]
 have hN:0≤x * num:=D8H x0 n0
 have hN':x * num≤100000000000000 * 100000000000000:=D9z x1 n1 n0 (by omega)
 refine B2 (C0x x num ⟨by omega,by omega⟩ ⟨by omega,by omega⟩ st) ?_
 have et:V7 x num den round=if x * num / den>100000000000000 then (0,5) else if T8 (x * num / den) (x * num % den) den round>100000000000000 then (0,5) else (T8 (x * num / den) (x * num % den) den round,0):=if_neg e
 rw [et]
 clear et e
 generalize x * num=N at *
 have hq0:0≤N / den:=D8R hN (by omega)
 have hm0:=D8F N d2
 have hm1:=D8t N (show 0<den by omega)
 have hme:=D8j N den
 conv=>whnf
 rw [wd]
 refine B7 (fun hg=>?_) (fun hg=>?_)<;>rw [hg]<;>simp only [D7d,D7e] at hg
 ·conv=>whnf
  refine ⟨?_,rfl⟩
  have:N / den>100000000000000:=by
   refine Int.lt_of_not_ge fun hle=>?_
   have h1:N<(100000000000000+1) * den:=(D8U (show 0<den by omega)).1 (by omega)
   omega
  rw [if_pos this];rfl
 ·conv=>whnf
  rw [wd]
  refine B2 (C0k _ _ den (by omega) (by omega) (by omega) (by omega) (by omega) st) ?_
  rw [show N / 18446744073709551616 * 18446744073709551616+N % 18446744073709551616=N by omega];conv=>whnf
  refine B7 (fun hq=>?_) (fun hq=>?_)<;>rw [hq]<;>simp only [D7d,D7e] at hq
  ·conv=>whnf
   exact ⟨by rw [if_pos hq];rfl,rfl⟩
  ·rw [if_neg hq]
   generalize N / den=q at *
   generalize N % den=r at *
   have bq:T8 q r den round≤100000000000001∧0≤T8 q r den round:=by unfold T8;repeat' split<;>omega
   suffices hcall:∀ f,f=(if round=0 then 202 else if round=1 then 203 else 204)→S P f [.agg [eU q,eU r,eU den]] st fun v st'=>v=eU (T8 q r den round)∧st'=st by
    have fin:∀ R:Int,R≤100000000000001→0≤R→IntKind.i64.wrap R=R:=fun R h1 h2=>A4 (by omega) (by omega)
    generalize T8 q r den round=R at *
    rcases (by omega:round=0∨round=1∨round=2) with rfl | rfl | rfl
    all_goals (conv=>whnf)
    all_goals (refine ⟨⟨by omega,by omega⟩,?_⟩;conv=>whnf)
    all_goals (rw [wd])
    all_goals (refine B2 (hcall _ rfl) ?_)
    all_goals (conv=>whnf)
    all_goals (refine B7 (fun hR=>?_) (fun hR=>?_)<;>rw [hR]<;>simp only [D7d,D7e] at hR)
    all_goals (conv=>whnf)
    all_goals (refine ⟨?_,rfl⟩)
    all_goals first
     | (rw [if_pos hR];rfl)
     | (rw [if_neg hR,fin R bq.1 bq.2];rfl)
   rintro f rfl
   rcases (by omega:round=0∨round=1∨round=2) with rfl | rfl | rfl
   ·exact (C9f q r den st).mono fun v st' h=>h
   ·exact (D5O q r den hq0 (by omega) hm0 hm1 d1 st).mono fun v st' h=>h
   ·exact (C9h q r den hq0 (by omega) hm0 hm1 d1 st).mono fun v st' h=>h
theorem B5z (x rate round:Int) (st:St):S P 91 [eI x,eI rate,eI round] st fun v st'=>v=.tuple [eI (if 0≤rate∧rate≤10000 then V7 x rate 10000 round else (0,2)).1,eI (if 0≤rate∧rate≤10000 then V7 x rate 10000 round else (0,2)).2]∧st'=st:=by
 refine SyW [] Tryz.func91 ?_
 repeat' ((conv=>whnf);first | refine B2 (B5W _ _ _ _ st) ?_ | (refine B7 (fun h=>?_) (fun h=>?_)<;>rw [h]))
 all_goals (conv=>whnf)
 all_goals (refine ⟨?_,rfl⟩;simp only [D7d,D7e] at *)
 ·rw [if_neg (by omega)];rfl
 ·rw [if_neg (by omega)];rfl
 ·rw [if_pos (by omega)];rfl
abbrev Big:Nat:=9223372036854775807
def J8 (lo hi x:Int):Bool:=decide (x≥lo)&&decide (x≤hi)
def M0 {α : Type} [Inhabited α] (l:List α) (p:Nat→α→Bool):Bool:=(List.range l.length).all fun k=>p k (l.getD k default)
theorem L3 {α : Type} [Inhabited α] {l:List α} {p:Nat→α→Bool} (h:∀ k,k<l.length→p k (l.getD k default)=true):M0 l p=true:=A6W h
theorem Y0 {α : Type} [Inhabited α] {l:List α} {p:Nat→α→Bool} {k:Nat} (hk:k<l.length) (h:p k (l.getD k default)=false):M0 l p=false:=A4G hk h
theorem G9 {i:Nat} {q:Nat→Prop} (h:∀ k,k<i→q k) (hi:q i):∀ k,k<i+1→q k:=fun k hk=>by
 rcases D7Y.1 hk with h' | h'
 ·exact h k h'
 ·rw [h'];exact hi
theorem B5g {α : Type} [Inhabited α] (g : α→C8) (l:List α) (st:St):A7 [.arr 1 l.length (fun k=>eS (g (l.getD k default)))] st [D5 (l.map g)] st:=by
 have e:D5 (l.map g)=.arr 1 l.length (fun k=>eS ((l.map g).getD k default)):=by unfold D5 A8;rw [D7i]
 rw [e]
 exact A7.arr fun i hi=>by rw [D4 g l hi]
theorem C3S (x:Int) (st:St):S P 87 [eI x] st fun v st'=>v=.bool (J8 0 100000 x)∧st'=st:=by
 refine SyW [] Tryz.func87 ?_
 repeat' ((conv=>whnf);first  | (refine B7 (fun h=>?_) (fun h=>?_)<;>rw [h]))
 all_goals (conv=>whnf)
 all_goals (refine ⟨?_,rfl⟩;show AV.bool _=AV.bool _;congr 1)
 all_goals (simp only [J8, *,D7u,D7z,D7Q,D7H,D7U,D7V,D7X,D7R,D7S,D7K,D8v];try rfl)
theorem B5E (x:Int) (st:St):S P 200 [eI x] st fun v st'=>v=.bool (J8 0 10000 x)∧st'=st:=by
 refine SyW [] Tryz.func200 ?_
 repeat' ((conv=>whnf);first  | (refine B7 (fun h=>?_) (fun h=>?_)<;>rw [h]))
 all_goals (conv=>whnf)
 all_goals (refine ⟨?_,rfl⟩;show AV.bool _=AV.bool _;congr 1)
 all_goals (simp only [J8, *,D7u,D7z,D7Q,D7H,D7U,D7V,D7X,D7R,D7S,D7K,D8v];try rfl)
theorem C4n (x:Int) (st:St):S P 126 [eI x] st fun v st'=>v=.bool (J8 1 9 x)∧st'=st:=by
 refine SyW [] Tryz.func126 ?_
 repeat' ((conv=>whnf);first  | (refine B7 (fun h=>?_) (fun h=>?_)<;>rw [h]))
 all_goals (conv=>whnf)
 all_goals (refine ⟨?_,rfl⟩;show AV.bool _=AV.bool _;congr 1)
 all_goals (simp only [J8, *,D7u,D7z,D7Q,D7H,D7U,D7V,D7X,D7R,D7S,D7K,D8v];try rfl)
def lineC (x:E6):Bool:=J8 0 100000 x.qty&&J8 0 1000000000 x.price
theorem C9n (x:E6) (st:St):S P 287 [I7 x] st fun v st'=>v=.bool (lineC x)∧st'=st:=by
 refine SyW [1] Tryz.func287 ?_
 repeat' ((conv=>whnf);first  | (refine B7 (fun h=>?_) (fun h=>?_)<;>rw [h]))
 all_goals (conv=>whnf)
 all_goals (refine ⟨?_,rfl⟩;show AV.bool _=AV.bool _;congr 1)
 all_goals (simp only [lineC,J8, *,D7u,D7z,D7Q,D7H,D7U,D7V,D7X,D7R,D7S,D7K,D8v];try rfl)
def B0A (x:Ab.Ship):Bool:=J8 0 1000000000 x.fee&&J8 0 10000000000000 x.free
theorem D0h (x:Ab.Ship) (st:St):S P 147 [C8p x] st fun v st'=>v=.bool (B0A x)∧st'=st:=by
 refine SyW [1] Tryz.func147 ?_
 repeat' ((conv=>whnf);first  | (refine B7 (fun h=>?_) (fun h=>?_)<;>rw [h]))
 all_goals (conv=>whnf)
 all_goals (refine ⟨?_,rfl⟩;show AV.bool _=AV.bool _;congr 1)
 all_goals (simp only [B0A,J8, *,D7u,D7z,D7Q,D7H,D7U,D7V,D7X,D7R,D7S,D7K,D8v];try rfl)
abbrev B6B (p:B1):AV:=.agg (cellsOf (B8 p))
def A8P (p:B1):Bool:=J8 1 10000 p.rate
def A8N (p:B1):Bool:=J8 1 1000000000 p.amount
def A8O (p:B1):Bool:=A8P p&&(J8 1 100 p.buy&&J8 1 100 p.get)
def A1m (x:A2H):Bool:=A0I x.scope&&!(decide (x.count<1)||decide (x.count>100))
theorem B5n (p:B1) (st:St):S P 242 [B6B p] st fun v st'=>v=.bool (A8P p)∧st'=st:=by
 refine SyW [1] Tryz.func242 ?_
 repeat' ((conv=>whnf);first  | (refine B7 (fun h=>?_) (fun h=>?_)<;>rw [h]))
 all_goals (conv=>whnf)
 all_goals (refine ⟨?_,rfl⟩;show AV.bool _=AV.bool _;congr 1)
 all_goals (simp only [A8P,J8, *,D7u,D7z,D7Q,D7H,D7U,D7V,D7X,D7R,D7S,D7K,D8v];try rfl)
theorem C1Y (p:B1) (st:St):S P 243 [B6B p] st fun v st'=>v=.bool (A8N p)∧st'=st:=by
 refine SyW [1] Tryz.func243 ?_
 repeat' ((conv=>whnf);first  | (refine B7 (fun h=>?_) (fun h=>?_)<;>rw [h]))
 all_goals (conv=>whnf)
 all_goals (refine ⟨?_,rfl⟩;show AV.bool _=AV.bool _;congr 1)
 all_goals (simp only [A8N,J8, *,D7u,D7z,D7Q,D7H,D7U,D7V,D7X,D7R,D7S,D7K,D8v];try rfl)
theorem C2a (p:B1) (st:St):S P 244 [B6B p] st fun v st'=>v=.bool (A8O p)∧st'=st:=by
 refine SyW [1] Tryz.func244 ?_
 repeat' ((conv=>whnf);first | refine B2 (B5n p st) ?_ | (refine B7 (fun h=>?_) (fun h=>?_)<;>rw [h]))
 all_goals (conv=>whnf)
 all_goals (refine ⟨?_,rfl⟩;show AV.bool _=AV.bool _;congr 1)
 all_goals (simp only [A8O,J8, *,D7u,D7z,D7Q,D7H,D7U,D7V,D7X,D7R,D7S,D7K,D8v];try rfl)
def N7 (s:C8):Bool:=s.toList==(⟨#[]⟩:C8).toList
def A2Y (s:C8):Bool:=N7 s||C6 s
theorem C7j (s:C8) (st:St):S P 282 [eS s] st fun v st'=>v=.bool (A2Y s)∧st'=st:=by
 refine SyW [] Tryz.func282 ?_
 repeat' ((conv=>whnf);first | refine B2 (A4k s st) ?_ | (refine B7 (fun h=>?_) (fun h=>?_)<;>rw [h]))
 all_goals (conv=>whnf)
 all_goals (refine ⟨?_,rfl⟩;show AV.bool _=AV.bool _;congr 1)
 all_goals (simp only [A2Y,N7, *,D7u,D7z,D7Q,D7H,D7U,D7V,D7X,D7R,D7S,D7K,D8v];try rfl)
theorem C1V (x:A2H) (h1:x.scope.skus.length≤Big) (h2:x.scope.cats.length≤Big) (st:St):S P 280 [A1L x] st fun v st'=>v=.bool (!A1m x)∧st'=st:=by
 refine SyW [1] Tryz.func280 ?_
 repeat' ((conv=>whnf);first | refine B2 (C0M x.scope h1 h2 st) ?_ | (refine B7 (fun h=>?_) (fun h=>?_)<;>rw [h]))
 all_goals (conv=>whnf)
 all_goals (refine ⟨?_,rfl⟩;show AV.bool _=AV.bool _;congr 1)
 all_goals (simp only [A1m,D7v,D7J, *,D7u,D7z,D7Q,D7H,D7U,D7V,D7X,D7R,D7S,D7K,D8v] at *;try simp only [*,D7u,D7z,D7S,D7K,D7X,D7R,D8v])
def B6e (l:List A2H):Prop:=l.length≤Big∧∀ x∈l,x.scope.skus.length≤Big∧x.scope.cats.length≤Big
def A7f (p:B1):Bool:=!(decide ((p.parts.length:Int)<1)||decide ((p.parts.length:Int)>3)||decide (p.amount<0)||decide (p.amount>10000000000000))&&!(p.parts.any fun x=>!A1m x)
theorem C1Z (p:B1) (hp:B6e p.parts) (st:St):S P 245 [B6B p] st fun v st'=>v=.bool (A7f p)∧st'=st:=by
 refine SyW [1] Tryz.func245 ?_
 repeat' ((conv=>whnf);first | refine B2 (B9d p.parts hp.1 _ [] (fun x=>!A1m x) st fun x hx=>C1V x (hp.2 x hx).1 (hp.2 x hx).2 st) ?_ | (refine B7 (fun h=>?_) (fun h=>?_)<;>rw [h]))
 all_goals (conv=>whnf)
 all_goals (refine ⟨?_,rfl⟩;show AV.bool _=AV.bool _;congr 1)
 all_goals (simp only [A7f, *,D7u,D7z,D7Q,D7H,D7U,D7V,D7X,D7R,D7S,D7K,D8v];try rfl)
def A4q (l:List A1g) (k:Nat) (x:A1g):Bool :=
 !(decide (x.least≤(if k=0 then -1 else (l.getD (k - 1) default).least))||decide (x.least>10000000000000)||decide (x.rate<0)||decide (x.rate>10000)||decide (x.amount<0)||decide (x.amount>10000000000000)||(x.rate==0&&x.amount==0))
def A0r (l:List A1g):Bool:=!(decide ((l.length:Int)<1)||decide ((l.length:Int)>6))&&M0 l (A4q l)
theorem C0X (p:B1) (st:St):S P 246 [B6B p] st fun v st'=>v=.bool (A0r p.tiers)∧st'=st:=by
 refine SyW [1,5] Tryz.func246 ?_
 repeat' ((conv=>whnf);first  | (refine B7 (fun h=>?_) (fun h=>?_)<;>rw [h]))
 all_goals (conv=>whnf)
 all_goals first
  | (refine ⟨?_,rfl⟩;show AV.bool _=AV.bool _;congr 1;simp only [A0r, *,D7X,D7U,D7S,D7z];done)
  | skip
 generalize hl:p.tiers=l at *
 have hs:l.length≤6:=by simp only [D7d,D7e] at *;omega
 have ht:A0r l=M0 l (A4q l):=by simp only [A0r, *,D7V,D7K,D7u]
 refine ⟨[3,20,21,22],fun m vs st'=>∃ i:Nat,i≤l.length∧(∀ k,k<i→A4q l k (l.getD k default)=true)∧m=l.length - i∧vs=[eI (if i=0 then -1 else (l.getD (i - 1) default).least),A8 3 Z6 l,eI l.length,eI i]∧st'=st,?_,?_⟩
 ·conv=>whnf
  exact ⟨_,0,D7C _,fun k hk=>absurd hk (by omega),rfl,rfl,rfl⟩
 ·rintro m vs st' ⟨i,hi,hok,rfl,rfl,rfl⟩
  conv=>whnf
  cases h:decide ((i:Int)<(l.length:Int))
  ·have:=D7g h
   conv=>whnf
   refine ⟨?_,rfl⟩
   rw [ht,L3 fun k hk=>hok k (by omega)];rfl
  ·have hi':i<l.length:=by have:=D7h h;omega
   conv=>whnf
   refine ⟨rfl,⟨by omega,by omega⟩,?_⟩
   have yes:A4q l i (l.getD (i:Int).toNat default)=true→∀ k,k<i+1→A4q l k (l.getD k default)=true:=fun h=>G9 hok h
   have no:A4q l i (l.getD (i:Int).toNat default)=false→A0r l=false:=fun h=>by rw [ht];exact Y0 hi' h
   unfold A4q at yes no
   repeat' ((conv=>whnf);first  | (refine B7 (fun h=>?_) (fun h=>?_)<;>rw [h]))
   all_goals (conv=>whnf)
   all_goals first
    | (refine ⟨?_,rfl⟩;rw [no (by simp only [*,D7u,Bool.and_self,D7U,D7X,D7S])];rfl)
    | (refine ⟨rfl,?_⟩
       conv=>whnf
       exact ⟨l.length - (i+1),by omega,i+1,by omega,yes (by simp only [*,D7z,D7H,D7V,D7K]),rfl,by rw [B4 (by omega),if_neg (show ¬ i+1=0 by omega)];rfl,rfl⟩)
def A7x (p:B1):Bool:=C6 p.id&&J8 0 1000 p.prio&&A2Y p.group&&A2Y p.code&&A0I p.scope&&J8 0 10000000000000 p.least
structure A8o (s:Z4):Prop where
 skus:s.skus.length≤Big
 cats:s.cats.length≤Big
theorem C7t (p:B1) (hsc:A8o p.scope) (st:St):S P 247 [B6B p] st fun v st'=>v=.bool (A7x p)∧st'=st:=by
 refine SyW [1] Tryz.func247 ?_
 repeat' ((conv=>whnf);first | refine B2 (A4k _ st) ?_ | refine B2 (C7j _ st) ?_ | refine B2 (C0M p.scope hsc.skus hsc.cats st) ?_ | (refine B7 (fun h=>?_) (fun h=>?_)<;>rw [h]))
 all_goals (conv=>whnf)
 all_goals (refine ⟨?_,rfl⟩;show AV.bool _=AV.bool _;congr 1)
 all_goals (simp only [A7x,J8, *,D7u,D7z,D7Q,D7H,D7U,D7V,D7X,D7R,D7S,D7K,D8v];try rfl)
def A9R (p:B1):Bool :=
 (((p.kind==1)||(p.kind==7)||(p.kind==3))||p.rate==0)&&((p.kind==2)||(p.kind==4)||p.amount==0)&&((p.kind==3)||(p.buy==0&&p.get==0))&&((p.kind==4)||p.parts.length==0)&&((p.kind==5)||(p.kind==6)||p.tiers.length==0)&&(((p.kind != 4)&&(p.kind != 7))||(p.scope.skus.length+p.scope.cats.length==0))&&((p.kind != 7)||!p.closes)
theorem A3Z (n:Nat):((n:Int)==0)=(n==0):=by
 rw [E0g,D7Z,D7Z];omega
set_option maxHeartbeats 4000000 in
theorem C4L (p:B1) (hk:1≤p.kind∧p.kind≤7) (hs1:p.scope.skus.length≤20) (hs2:p.scope.cats.length≤20) (st:St):S P 248 [B6B p] st fun v st'=>v=.bool (A9R p)∧st'=st:=by
 refine SyW [1] Tryz.func248 ?_
 obtain ⟨id,kind,prio,group,code,closes,scope,least,rate,amount,buy,get,parts,tiers⟩:=p
 simp only at *
 have wl:IntKind.i64.wrap ((scope.skus.length:Int)+(scope.cats.length:Int))=((scope.skus.length+scope.cats.length:Nat):Int):=by rw [A4 (by omega) (by omega)];omega
 rcases (by omega:kind=1∨kind=2∨kind=3∨kind=4∨kind=5∨kind=6∨kind=7) with rfl | rfl | rfl | rfl | rfl | rfl | rfl
 all_goals repeat' ((conv=>whnf);first  | (refine B7 (fun h=>?_) (fun h=>?_)<;>rw [h]))
 all_goals (conv=>whnf)
 all_goals (refine ⟨?_,rfl⟩;show AV.bool _=AV.bool _;congr 1)
 all_goals (try rw [wl] at *)
 all_goals (simp only [A3Z] at *;simp [A9R, *])
theorem F3 {P:Program} {f:FuncId} {args:List AV} {st:St} {v:AV} (h:S P f args st fun v' st'=>v'=v∧st'=st):A2l P f args st fun v' st'=>v'=v∧st'=st:=call h fun _ _ h=>h
structure R5 (p:B1):Prop where
 scope:A8o p.scope
 parts:B6e p.parts
def A7y (p:B1):Bool :=
 if p.kind=1 then A8P p else if p.kind=2 then A8N p else if p.kind=3 then A8O p else if p.kind=4 then A7f p else if p.kind=5 then A0r p.tiers else if p.kind=6 then A0r p.tiers else A8P p
def I0 (p:B1):Bool:=decide (p.kind≥1)&&decide (p.kind<8)&&A7x p&&A9R p&&A7y p
theorem B2N {s:Z4} (h:A0I s=true):s.skus.length≤20∧s.cats.length≤20:=by
 simp only [A0I,D7f,D7d] at h
 exact ⟨h.1.1,h.2.1⟩
theorem B4l {p:B1} (h:A7x p=true):p.scope.skus.length≤20∧p.scope.cats.length≤20:=by
 simp only [A7x,D7f] at h
 exact B2N h.1.2
theorem B1h (p:B1) (hp:R5 p) (st:St):S P 196 [B8 p] st fun v st'=>v=.bool (I0 p)∧st'=st:=by
 refine F7 [1,3,4] Tryz.func196 ?_
 refine ⟨[],[],[0,1,2,3,4,5,6,7,8,9,10,11,12,13,14,15,16,17,18,19,20,21,22,23,24],by kernel_rfl,?_⟩;conv=>whnf
 refine B7 (fun h1=>?_) (fun h1=>?_)<;>rw [h1]
 case refine_2 =>
  conv=>whnf
  refine ⟨?_,rfl⟩
  simp only [I0,h1,D7z];rfl
 conv=>whnf
 refine B7 (fun h2=>?_) (fun h2=>?_)<;>rw [h2]
 case refine_2 =>
  conv=>whnf
  refine ⟨?_,rfl⟩
  simp only [I0,h1,h2,D7z,D7H];rfl
 have hk:1≤p.kind∧p.kind≤7:=by simp only [D7d] at h1 h2;omega
 conv=>whnf
 refine cqW (C7t p hp.scope st) ?_
 refine B7 (fun h3=>?_) (fun h3=>?_)
 case refine_2 =>
  rw [h3];conv=>whnf
  refine ⟨?_,rfl⟩
  simp only [I0,h3,D7z,D7H];rfl
 rw [h3]
 have hl:=B4l h3
 conv=>whnf
 refine cqW (C4L p hk hl.1 hl.2 st) ?_
 refine B7 (fun h4=>?_) (fun h4=>?_)
 case refine_2 =>
  rw [h4];conv=>whnf
  refine ⟨?_,rfl⟩
  simp only [I0,h4,D7z,D7H];rfl
 rw [h4]
 have hspec:I0 p=A7y p:=by simp only [I0,h1,h2,h3,h4,D7u]
 rw [hspec]
 suffices hcall:∀ f,f=(if p.kind=1 then 242 else if p.kind=2 then 243 else if p.kind=3 then 244 else if p.kind=4 then 245 else if p.kind=5 then 246 else if p.kind=6 then 246 else 242)→S P f [B6B p] st fun v st'=>v=.bool (A7y p)∧st'=st by
  clear hspec h1 h2 h3 h4 hl
  generalize A7y p=B at *
  clear hp
  obtain ⟨id,kind,prio,group,code,closes,scope,least,rate,amount,buy,get,parts,tiers⟩:=p
  simp only at hk hcall
  rcases (by omega:kind=1∨kind=2∨kind=3∨kind=4∨kind=5∨kind=6∨kind=7) with rfl | rfl | rfl | rfl | rfl | rfl | rfl
  all_goals (conv=>whnf)
  all_goals (refine ⟨⟨by dsimp only;omega,by dsimp only;omega⟩,?_⟩;conv=>whnf)
  all_goals (refine ⟨_,F3 (hcall _ rfl),?_⟩;conv=>whnf)
  all_goals exact ⟨rfl,rfl⟩
 rintro f rfl
 unfold A7y
 rcases (by omega:p.kind=1∨p.kind=2∨p.kind=3∨p.kind=4∨p.kind=5∨p.kind=6∨p.kind=7) with e | e | e | e | e | e | e<;>rw [e]
 ·exact B5n p st
 ·exact C1Y p st
 ·exact C2a p st
 ·exact C1Z p hp.parts st
 ·exact C0X p st
 ·exact C0X p st
 ·exact B5n p st
theorem C1T (s:C8) (st:St):S P 172 [eS s] st fun v st'=>v=.bool (!C6 s)∧st'=st:=by
 refine F7 [] Tryz.func172 ?_
 refine I3 (A4k s st) ?_
 exact ⟨rfl,rfl⟩
def R6 (l:List C8):Bool:=decide ((l.length:Int)≤4)&&A0H l&&!(l.any fun s=>!C6 s)
theorem C0i (l:List C8) (hl:l.length≤Big) (st:St):S P 120 [D5 l] st fun v st'=>v=.bool (R6 l)∧st'=st:=by
 refine SyW [] Tryz.func120 ?_
 repeat' ((conv=>whnf);first | refine B2 (B2J l hl st) ?_ | refine B2 (C2P l hl _ [] (fun s=>!C6 s) st fun x _=>C1T x st) ?_ | (refine B7 (fun h=>?_) (fun h=>?_)<;>rw [h]))
 all_goals (conv=>whnf)
 all_goals (refine ⟨?_,rfl⟩;show AV.bool _=AV.bool _;congr 1)
 all_goals (simp only [R6, *,D7u,D7z,D7Q,D7H];try rfl)
theorem C5u (p x:B1) (st:St):S P 198 [B8 x,.fptr (B8 p) 0] st fun v st'=>v=.bool (x.id.toList==p.id.toList)∧st'=st:=by
 refine F7 [2] Tryz.func198 ?_
 exact ⟨rfl,rfl⟩
theorem B2P {α : Type} [Inhabited α] (e:Nat) (enc : α→AV) (l:List α) (i n:Nat) (f:Nat→AV) (hi:i≤l.length) (hn:n=i) (hf:∀ k,k<i→f k=enc (l.getD k default)) (st:St):A7 [.arr e n f] st [A8 e enc (l.take i)] st:=by
 subst hn
 have el:(l.take n).length=n:=by rw [D7n];omega
 have e2:A8 e enc (l.take n)=.arr e n (fun k=>enc ((l.take n).getD k default)):=by unfold A8;rw [el]
 rw [e2]
 refine A7.arr fun k hk=>?_
 rw [hf k hk]
 congr 1
 simp [D7c,D7r hk]
def X8 (l:List B1) (k:Nat) (p:B1):Bool:=I0 p&&!((l.take k).any fun x=>x.id.toList==p.id.toList)
def promosC (l:List B1):Bool:=decide ((l.length:Int)≤60)&&M0 l (X8 l)
theorem C4V (l:List B1) (hl:l.length≤Big) (hf:∀ p∈l,R5 p) (st:St):S P 145 [A8 15 B8 l] st fun v st'=>v=.bool (promosC l)∧st'=st:=by
 refine F7 [4] Tryz.func145 ?_
 refine B7 (fun h=>?_) (fun h=>?_)<;>rw [h]<;>simp only [D7d,D7e] at h
 ·conv=>whnf
  refine ⟨?_,rfl⟩
  rw [show promosC l=false by unfold promosC;rw [D7j (by omega),D7z]];rfl
 have ht:promosC l=M0 l (X8 l):=by unfold promosC;rw [D7D (by omega),D7u]
 conv=>whnf
 refine ⟨[0,8,9,10],fun m vs st'=>∃ i:Nat,i≤l.length∧(∀ k,k<i→X8 l k (l.getD k default)=true)∧m=l.length - i∧vs=[A8 15 B8 l,A8 15 B8 l,eI l.length,eI i]∧st'=st,?_,?_⟩
 ·conv=>whnf
  exact ⟨_,0,D7C _,fun k hk=>absurd hk (by omega),rfl,rfl,rfl⟩
 ·rintro m vs st' ⟨i,hi,hok,rfl,rfl,rfl⟩
  conv=>whnf
  cases h:decide ((i:Int)<(l.length:Int))
  ·have:=D7g h
   conv=>whnf
   refine ⟨?_,rfl⟩
   rw [ht,L3 fun k hk=>hok k (by omega)];rfl
  ·have hi':i<l.length:=by have:=D7h h;omega
   conv=>whnf
   refine ⟨rfl,⟨by omega,by omega⟩,?_⟩
   have yes:X8 l i (l.getD (i:Int).toNat default)=true→∀ k,k<i+1→X8 l k (l.getD k default)=true:=fun h=>G9 hok h
   have no:X8 l i (l.getD (i:Int).toNat default)=false→promosC l=false:=fun h=>by rw [ht];exact Y0 hi' h
   have hmem:l.getD (i:Int).toNat default∈l:=by
    rw [D7q,D7c,D7k hi'];exact D8y hi'
   unfold X8 at yes no;conv=>whnf
   refine I3 (B1h (l.getD (i:Int).toNat default) (hf _ hmem) _) ?_
   refine B7 (fun h1=>?_) (fun h1=>?_)
   ·rw [h1];conv=>whnf
    refine ⟨?_,rfl⟩
    rw [no (by rw [show I0 (l.getD (i:Int).toNat default)=false by simpa using h1,D7z])];rfl
   ·rw [h1]
    have h1':I0 (l.getD (i:Int).toNat default)=true:=by simpa using h1
    conv=>whnf
    refine ⟨rfl,⟨by omega,by omega,by omega⟩,?_⟩;conv=>whnf
    refine E2 (A7.cons (B2P 15 B8 l i _ _ hi (by omega) (fun k hk=>by simp) _) (A7.keep _ _)) (B2 (B7n (l.take i) (by rw [D7n];omega) _ [.fptr (B8 (l.getD (i:Int).toNat default)) 0] (fun x=>x.id.toList==(l.getD (i:Int).toNat default).id.toList) _ fun x _=>C5u _ x _) ?_);conv=>whnf
    refine B7 (fun h2=>?_) (fun h2=>?_)
    ·rw [h2];conv=>whnf
     refine ⟨?_,rfl⟩
     rw [no (by rw [h2,D7S,D7H])];rfl
    ·rw [h2];conv=>whnf
     refine G3 ?_
     exact ⟨l.length - (i+1),by omega,i+1,by omega,yes (by rw [h1',h2];rfl),rfl,by rw [B4 (by omega)],rfl⟩
end Go.Proofs.YtaapofnkmpiknaaGreat
