/- Part 23 of the proof: contracts of the functions that the law reaches -/
import Derived.Test.YthdimklenlikgaaGreatQa22
set_option linter.unusedVariables false
namespace Go.Ab
open Go
theorem lp {A:List AV} {st:St} (n:Nat) (keep:List Nat) (J:Nat→List AV→St→Prop) {B:List Nat→(Nat→KA)→Nat→List AV→St→Prop}
  (h0:A3l A keep fun us=>J 0 us st) (h:∀ i vs s,i≤n→J i vs s→B keep (fun m vs s=>∃ i,i≤n∧m=n - i∧J i vs s) (n - i) vs s) :
  ∃ (keep:List Nat) (I:Nat→KA),(A3l A keep fun us=>∃ m,I m us st)∧∀ m vs s,I m vs s→B keep I m vs s:=by
 rw [A0L] at h0
 refine ⟨keep,fun m vs s=>∃ i,i≤n∧m=n - i∧J i vs s,?_,?_⟩
 ·rw [A0L];exact ⟨n,0,Nat.zero_le _,rfl,h0⟩
 ·rintro m vs s ⟨i,hi,rfl,hj⟩;exact h i vs s hi hj
theorem nx {n i:Nat} {J:Nat→Prop} (hi:i<n) (h:J (i+1)):∃ m',m'<n - i∧∃ i',i'≤n∧m'=n - i'∧J i':=⟨n - (i+1),by omega,i+1,hi,rfl,h⟩
theorem C6 {i n:Nat} (h:decide ((i:Int)<(n:Int))=false) (hi:i≤n):i=n:=by have:=of_decide_eq_false h;omega
theorem E4 {i n:Nat} (h:decide ((i:Int)<(n:Int))=true):i<n:=by have:=of_decide_eq_true h;omega
def F2 {α : Type} [Inhabited α] (ty e:Nat) (enc : α→AV) (L:List α) (st:St) (sv:AV) (st':St):Prop:=M8 ty e (fun k=>enc (L.getD k default)) st L.length sv st'
theorem F2.start {α : Type} [Inhabited α] (ty e:Nat) (enc : α→AV) (st:St):F2 ty e enc [] st .emp st:=M8.start _ _ _ _
theorem B7V {α : Type} [Inhabited α] (L:List α) (x : α):(L++[x]).getD L.length default=x:=by simp [List.getD_eq_getElem?_getD]
theorem A3k {α : Type} [Inhabited α] {a b:List α} {k:Nat} (h:k<a.length):(a++b).getD k default=a.getD k default:=by
 rw [List.getD_eq_getElem?_getD,List.getD_eq_getElem?_getD,List.getElem?_append_left h]
theorem F2.app {α : Type} [Inhabited α] {T:H3} {t:TypeId} {x sv:AV} {st st':St} {k:KK} {r q:D2} {el:Nat} {enc : α→AV} {L:List α} {y : α} {g:Nat→AV} (hr:T t=some r) (hd:r.desc=.slice el) (hq:T el=some q)
  (hz:(Nat.blt 0 q.size&&Nat.blt 0 q.bytes&&Nat.beq q.zero.cells.size q.size)=true) (hs:X9 q.size st' x=some (1,g)) (hg:g 0=enc y) (hb:(L.length+1) * q.bytes≤140737488355328)
  (hc:F2 el q.size enc L st sv st') (hk:∀ sv' st'',F2 el q.size enc (L++[y]) st sv' st''→k sv' st''):A5j T t sv x st' k:=by
 refine M8.app (f:=fun k=>enc ((L++[y]).getD k default)) hr hd hq hz hs (by show g 0=enc _;rw [B7V];exact hg) hb (M8.congr hc fun k hk=>by show enc _=enc _;rw [A3k hk]) (fun sv' st'' h=>hk sv' st'' ?_)
 unfold F2
 rw [List.length_append];exact h
theorem A0Z {α : Type} [Inhabited α] {P:Program} {F:FuncId} {args:List AV} {st:St} {ty e:Nat} {enc : α→AV} {L:List α} (h:S P F args st fun v st'=>F2 ty e enc L st v st'):S P F args st fun v st'=>v=B2 e enc L∧st'=st:=B9n h
theorem F2.shift {α : Type} [Inhabited α] {ty e:Nat} {enc : α→AV} {L:List α} {st:St} {sv:AV} {st':St} (h:F2 ty e enc L st sv st'):B0 [sv] st' [B2 e enc L] st:=M8.shift h
theorem F2.sup {α : Type} [Inhabited α] {ty e:Nat} {enc : α→AV} {L:List α} {st:St} {sv:AV} {st':St} (h:F2 ty e enc L st sv st'):D7 st st':=M8.sup h
theorem A2w {α β : Type} [Inhabited α] {l:List α} {i:Nat} (h:i<l.length) (g : α→β):(l.take (i+1)).map g=(l.take i).map g++[g (l.getD i default)]:=by rw [I6 h,List.map_append];rfl
end Go.Ab
set_option maxRecDepth 100000
set_option linter.unusedSimpArgs false
namespace Go.Proofs.YthdimklenlikgaaGreat
open Go Go.Ab
attribute [local irreducible] upd del
abbrev Sm (n:Nat):Prop:=n≤4611686018427387904
theorem A2J (s:D6) (hs:Sm s.size) (st:St):S P 126 [eS s] st fun v st'=>v=.bool (F8 s)∧st'=st:=by
 refine A8 [] B8 mixed Tryz.func126 (by rfl) rfl rfl rfl ?_;conv=>whnf
 refine lp s.size [0,3] (fun i vs st'=>(∀ k,k<i→okc (chr s k)=true)∧vs=[eS s,eI i]∧st'=st) ?_ ?_
 ·conv=>whnf
  exact ⟨fun k hk=>absurd hk (by omega),rfl,rfl⟩
 ·rintro i vs st' hi ⟨hok,rfl,rfl⟩
  conv=>whnf
  cases h:decide ((i:Int)<(s.size:Int))
  ·obtain rfl:=C6 h hi
   have e:F8 s=(decide ((s.size:Int)≥1)&&decide ((s.size:Int)≤12)):=by
    unfold F8
    rw [A5t hok,Bool.and_true]
    congr 1<;>exact decide_eq_decide.2 (by omega)
   rw [e];conv=>whnf
   refine C3 (fun h1=>?_) (fun h1=>?_)<;>rw [h1]<;>(conv=>whnf)<;>exact ⟨rfl,rfl⟩
  ·have hi':=E4 h
   have no:okc (chr s i)=false→F8 s=false:=fun h=>by unfold F8;rw [A3o hi' h,Bool.and_false]
   have yes:okc (chr s i)=true→∀ k,k<i+1→okc (chr s k)=true:=fun h=>J8 hok h
   conv=>whnf
   refine C2J (i:=i) rfl hi' ?_
   generalize chr s i=c at *
   repeat' ((conv=>whnf);refine C3 (fun h=>?_) (fun h=>?_)<;>rw [h])
   all_goals (conv=>whnf)
   all_goals first
    | (refine ⟨?_,rfl⟩
       rw [no (by rw [←Bool.not_eq_true,A8V];simp only [Bool.not_eq_true',Bool.not_eq_false',beq_iff_eq,beq_eq_false_iff_ne,ne_eq,decide_eq_true_eq,decide_eq_false_iff_not] at *;omega)]
       rfl)
    | (refine ⟨rfl,?_⟩
       conv=>whnf
       exact nx hi' ⟨yes ((A8V c).2 (by simp only [Bool.not_eq_true',Bool.not_eq_false',beq_iff_eq,beq_eq_false_iff_ne,ne_eq,decide_eq_true_eq,decide_eq_false_iff_not] at *;omega)),by rw [B9 (by omega)],rfl⟩)
theorem A1M (x m:Int) (st:St):S P 162 [eI x,eI m] st fun v st'=>v=.bool (R4 0 m x)∧st'=st:=by
 refine A8 [] B8 mixed Tryz.func162 (by rfl) rfl rfl rfl ?_;conv=>whnf
 unfold R4
 refine C3 (fun h=>?_) (fun h=>?_)<;>rw [h]<;>(conv=>whnf)<;>exact ⟨rfl,rfl⟩
theorem B5T (l:List D6) (s:D6) (hl:Sm l.length) (st:St):S P 166 [D3 l,eS s] st fun v st'=>v=.bool (l.any fun y=>y.toList==s.toList)∧st'=st:=by
 refine A8 [] B8 mixed Tryz.func166 (by rfl) rfl rfl rfl ?_;conv=>whnf
 refine lp l.length [0,1,5] (fun i vs st'=>(∀ k,k<i→((l.getD k default).toList==s.toList)=false)∧vs=[D3 l,eS s,eI i]∧st'=st) ?_ ?_
 ·conv=>whnf
  exact ⟨fun k hk=>absurd hk (by omega),rfl,rfl⟩
 ·rintro i vs st' hi ⟨hok,rfl,rfl⟩
  conv=>whnf
  cases h:decide ((i:Int)<(l.length:Int))
  ·obtain rfl:=C6 h hi
   conv=>whnf
   refine ⟨?_,rfl⟩
   rw [List.any_eq_false.2 fun x hx=>by obtain ⟨k,hk,rfl⟩:=E8 hx;rw [hok k hk];simp];rfl
  ·have hi':=E4 h
   conv=>whnf
   refine ⟨rfl,⟨by omega,by omega⟩,?_⟩;conv=>whnf
   cases h1:((l.getD (i:Int).toNat default).toList==s.toList)
   ·conv=>whnf
    refine ⟨rfl,?_⟩;conv=>whnf
    exact nx hi' ⟨J8 hok h1,by rw [B9 (by omega)],rfl⟩
   ·conv=>whnf
    refine ⟨?_,rfl⟩
    rw [List.any_eq_true.2 ⟨_,B3 hi',h1⟩];rfl
theorem B7g (a b:D6):(Op.bytesLess a.toList b.toList||a.toList==b.toList)=!slt b a:=by
 show (slt a b||_)=_
 cases h:slt a b with
 | true=>rw [A5H h];rfl
 | false =>
  cases h2:slt b a with
  | true =>
   rw [Bool.false_or,Bool.not_true,beq_eq_false_iff_ne]
   intro e
   rw [B1I e.symm e,h] at h2;cases h2
  | false=>rw [Bool.false_or,beq_iff_eq.2 (A5I h h2)];rfl
theorem B0h (l:List D6) (m:Int) (hl:Sm l.length) (hs:∀ s∈l,Sm s.size) (st:St):S P 164 [D3 l,eI m] st fun v st'=>v=.bool (Z7 l&&decide ((l.length:Int)≤m))∧st'=st:=by
 have hN:Z7 l=K8 l fun k x=>F8 x&&N5 l k:=by
  unfold Z7 X8 K8
  rw [←Bool.coe_iff_coe]
  simp only [Bool.and_eq_true,List.all_eq_true,List.mem_range,Bool.not_eq_true',List.any_eq_false,Bool.not_eq_true,Bool.not_eq_false']
  exact ⟨fun ⟨a,b⟩ k hk=>⟨Bool.not_eq_false _▸b _ (B3 hk),a k hk⟩,fun h=>⟨fun k hk=>(h k hk).2,fun x hx=>by obtain ⟨k,hk,rfl⟩:=E8 hx;rw [(h k hk).1];simp⟩⟩
 rw [hN]
 refine A8 [] B8 mixed Tryz.func164 (by rfl) rfl rfl rfl ?_;conv=>whnf
 refine lp l.length [0,1,5] (fun i vs st'=>(∀ k,k<i→(F8 (l.getD k default)&&N5 l k)=true)∧vs=[D3 l,eI m,eI i]∧st'=st) ?_ ?_
 ·conv=>whnf
  exact ⟨fun k hk=>absurd hk (by omega),rfl,rfl⟩
 ·rintro i vs st' hi ⟨hok,rfl,rfl⟩
  conv=>whnf
  cases h:decide ((i:Int)<(l.length:Int))
  ·obtain rfl:=C6 h hi
   conv=>whnf
   rw [L1 hok]
   exact ⟨rfl,rfl⟩
  ·have hi':=E4 h
   have yes:(F8 (l.getD (i:Int).toNat default)&&N5 l i)=true→∀ k,k<i+1→(F8 (l.getD k default)&&N5 l k)=true:=fun h=>J8 hok h
   have no:(F8 (l.getD (i:Int).toNat default)&&N5 l i)=false→(K8 l fun k x=>F8 x&&N5 l k)=false:=fun h=>T2 hi' h
   conv=>whnf
   refine ⟨[],[],List.range 22,by kernel_rfl,?_⟩;conv=>whnf
   refine ⟨rfl,⟨by omega,by omega⟩,?_⟩;conv=>whnf
   have n1:=A2J (l.getD (i:Int).toNat default) (hs _ (B3 hi')) st'
   generalize F8 (l.getD (i:Int).toNat default)=b1 at n1 no yes
   refine ⟨_,D1 n1,?_⟩;conv=>whnf
   cases b1
   ·conv=>whnf
    rw [no rfl]
    exact ⟨rfl,rfl⟩
   ·rw [Bool.true_and] at no yes;conv=>whnf
    cases h2:decide ((i:Int)>0)
    ·have h0:i=0:=by have:=of_decide_eq_false h2;omega
     conv=>whnf
     refine ⟨rfl,?_⟩;conv=>whnf
     exact nx hi' ⟨yes (by rw [h0];rfl),by rw [B9 (by omega)],rfl⟩
    ·have hp:0<i:=by have:=of_decide_eq_true h2;omega
     have hw:IntKind.i64.wrap ((i:Int) - 1)=((i - 1:Nat):Int):=by rw [A9 (by omega) (by omega)];omega
     have e:N5 l i=!(Op.bytesLess (l.getD (i:Int).toNat default).toList (l.getD ((i - 1:Nat):Int).toNat default).toList||(l.getD (i:Int).toNat default).toList==(l.getD ((i - 1:Nat):Int).toNat default).toList):=by
      rw [B7g,Bool.not_not]
      unfold N5
      rw [Int.toNat_natCast,Int.toNat_natCast,beq_false_of_ne (by omega),Bool.false_or]
     rw [e] at yes no;conv=>whnf
     refine ⟨rfl,⟨by omega,by omega⟩,?_⟩;conv=>whnf
     rw [hw]
     refine ⟨rfl,⟨by omega,by omega⟩,?_⟩;conv=>whnf
     generalize (Op.bytesLess (l.getD (i:Int).toNat default).toList (l.getD ((i - 1:Nat):Int).toNat default).toList||(l.getD (i:Int).toNat default).toList==(l.getD ((i - 1:Nat):Int).toNat default).toList)=b at *
     cases b
     ·conv=>whnf
      refine ⟨rfl,?_⟩;conv=>whnf
      exact nx hi' ⟨yes rfl,by rw [B9 (by omega)],rfl⟩
     ·conv=>whnf
      rw [no rfl]
      exact ⟨rfl,rfl⟩
structure A1p (s:S6):Prop where
 n1:Sm s.skus.length
 n2:Sm s.cats.length
 s1:∀ x∈s.skus,Sm x.size
 s2:∀ x∈s.cats,Sm x.size
theorem B4n (s:S6) (h:A1p s) (st:St):S P 307 [A2Q s] st fun v st'=>v=.bool (A0r s)∧st'=st:=by
 refine A8 [1] B8 mixed Tryz.func307 (by rfl) rfl rfl rfl ?_;conv=>whnf
 refine A7 (B0h s.skus 20 h.n1 h.s1 st) ?_
 have e:A0r s=((Z7 s.skus&&decide ((s.skus.length:Int)≤20))&&(Z7 s.cats&&decide ((s.cats.length:Int)≤20))):=by
  unfold A0r
  rw [Bool.and_comm (decide _),Bool.and_comm (decide (s.cats.length≤20))]
  rw [show decide ((s.skus.length:Int)≤20)=decide (s.skus.length≤20) from decide_eq_decide.2 (by omega),show decide ((s.cats.length:Int)≤20)=decide (s.cats.length≤20) from decide_eq_decide.2 (by omega)]
 rw [e]
 cases (Z7 s.skus&&decide ((s.skus.length:Int)≤20))
 ·conv=>whnf
  exact ⟨rfl,rfl⟩
 ·conv=>whnf
  refine A7 (B0h s.cats 20 h.n2 h.s2 st) ?_;conv=>whnf
  exact ⟨rfl,rfl⟩
theorem B7c (l:List Ab.Item) (s:D6) (hl:Sm l.length) (st:St):S P 116 [B2 4 F1 l,eS s] st fun v st'=>v=eI (S8 l s)∧st'=st:=by
 refine A8 [] B8 mixed Tryz.func116 (by rfl) rfl rfl rfl ?_;conv=>whnf
 refine lp l.length [0,1,5] (fun i vs st'=>(∀ k,k<i→((l.getD k default).sku.toList==s.toList)=false)∧vs=[B2 4 F1 l,eS s,eI i]∧st'=st) ?_ ?_
 ·conv=>whnf
  exact ⟨fun k hk=>absurd hk (by omega),rfl,rfl⟩
 ·rintro i vs st' hi ⟨hok,rfl,rfl⟩
  conv=>whnf
  cases h:decide ((i:Int)<(l.length:Int))
  ·obtain rfl:=C6 h hi
   conv=>whnf
   exact ⟨by rw [show S8 l s = -1 from R7 fun k hk=>hok k hk];rfl,rfl⟩
  ·have hi':=E4 h
   conv=>whnf
   refine ⟨rfl,⟨by omega,by omega⟩,?_⟩;conv=>whnf
   refine C3 (fun h1=>?_) (fun h1=>?_)<;>rw [h1]
   ·conv=>whnf
    exact ⟨by rw [show S8 l s=i from A1g hi' hok h1];rfl,rfl⟩
   ·conv=>whnf
    refine ⟨rfl,?_⟩;conv=>whnf
    exact nx hi' ⟨J8 hok h1,by rw [B9 (by omega)],rfl⟩
theorem B2J {L:List D6} {i:Nat} (hp:0<i):N5 L i=!(Op.bytesLess (L.getD i default).toList (L.getD (i - 1) default).toList||(L.getD i default).toList==(L.getD (i - 1) default).toList):=by
 rw [B7g,Bool.not_not]
 unfold N5
 rw [beq_false_of_ne (by omega),Bool.false_or]
theorem A6a {i:Nat} (h:0<i) (h2:i<9223372036854775807):IntKind.i64.wrap ((i:Int) - 1)=((i - 1:Nat):Int):=by rw [A9 (by omega) (by omega)];omega
def A4H (l:List Ab.Item) (k:Nat) (x:Ab.Item):Bool:=F8 x.sku&&F8 x.cat&&R4 0 1000000000 x.price&&N5 (l.map Ab.Item.sku) k
theorem C0Q (l:List Ab.Item) (hl:Sm l.length) (hs:∀ x∈l,Sm x.sku.size∧Sm x.cat.size) (st:St):S P 159 [B2 4 F1 l] st fun v st'=>v=.bool (A1h l)∧st'=st:=by
 have hN:A1h l=(K8 l (A4H l)&&decide ((l.length:Int)≤500)):=by
  unfold A1h K8 X8 A4H A3m R4
  rw [List.length_map,←Bool.coe_iff_coe]
  simp only [Bool.and_eq_true,List.all_eq_true,List.mem_range,Bool.not_eq_true',Bool.or_eq_false_iff,Bool.not_eq_false',decide_eq_true_eq,decide_eq_false_iff_not]
  constructor
  ·rintro ⟨h1,h2,h3⟩
   exact ⟨fun k hk=>⟨⟨⟨(h2 k hk).1.1.1,(h2 k hk).1.1.2⟩,by have:=(h2 k hk).1.2;have:=(h2 k hk).2;omega⟩,h3 k hk⟩,by omega⟩
  ·rintro ⟨h1,h2⟩
   exact ⟨by omega,fun k hk=>⟨⟨⟨(h1 k hk).1.1.1,(h1 k hk).1.1.2⟩,by have:=(h1 k hk).1.2;omega⟩,by have:=(h1 k hk).1.2;omega⟩,fun k hk=>(h1 k hk).2⟩
 rw [hN]
 refine A8 [] B8 mixed Tryz.func159 (by rfl) rfl rfl rfl ?_;conv=>whnf
 refine lp l.length [0,3] (fun i vs st'=>(∀ k,k<i→A4H l k (l.getD k default)=true)∧vs=[B2 4 F1 l,eI i]∧st'=st) ?_ ?_
 ·conv=>whnf
  exact ⟨fun k hk=>absurd hk (by omega),rfl,rfl⟩
 ·rintro i vs st' hi ⟨hok,rfl,rfl⟩
  conv=>whnf
  cases h:decide ((i:Int)<(l.length:Int))
  ·obtain rfl:=C6 h hi
   conv=>whnf
   rw [L1 hok]
   exact ⟨rfl,rfl⟩
  ·have hi':=E4 h
   have yes:A4H l i (l.getD (i:Int).toNat default)=true→∀ k,k<i+1→A4H l k (l.getD k default)=true:=fun h=>J8 hok h
   have no:A4H l i (l.getD (i:Int).toNat default)=false→K8 l (A4H l)=false:=fun h=>T2 hi' h
   have hm:=hs _ (B3 hi')
   have n1:=A2J (l.getD (i:Int).toNat default).sku hm.1 st'
   have n2:=A2J (l.getD (i:Int).toNat default).cat hm.2 st'
   have n3:=A1M (l.getD (i:Int).toNat default).price 1000000000 st'
   have e:0<i→N5 (l.map Ab.Item.sku) i=!(Op.bytesLess (l.getD i default).sku.toList (l.getD (i - 1) default).sku.toList||(l.getD i default).sku.toList==(l.getD (i - 1) default).sku.toList):=fun hp=>by
    rw [B2J hp]
    have e1:(l.map Ab.Item.sku).getD i default=(l.getD i default).sku:=E3 Ab.Item.sku l hi'
    have e2:(l.map Ab.Item.sku).getD (i - 1) default=(l.getD (i - 1) default).sku:=E3 Ab.Item.sku l (by omega)
    rw [e1,e2]
   have e0:i=0→N5 (l.map Ab.Item.sku) i=true:=fun h=>by rw [h];rfl
   rw [show A4H l i (l.getD (i:Int).toNat default)=(F8 (l.getD (i:Int).toNat default).sku&&F8 (l.getD (i:Int).toNat default).cat&&R4 0 1000000000 (l.getD (i:Int).toNat default).price&&N5 (l.map Ab.Item.sku) i) from rfl] at yes no
   generalize F8 (l.getD (i:Int).toNat default).sku=b1 at n1 yes no
   generalize F8 (l.getD (i:Int).toNat default).cat=b2 at n2 yes no
   generalize R4 0 1000000000 (l.getD (i:Int).toNat default).price=b3 at n3 yes no
   conv=>whnf
   refine ⟨[],[],List.range 43,by kernel_rfl,?_⟩
   cases h0:decide ((i:Int)>0)
   ·have h0':i=0:=by have:=of_decide_eq_false h0;omega
    replace e:=e0 h0'
    repeat' ((conv=>whnf);first | refine ⟨rfl,⟨by omega,by omega⟩,?_⟩ | refine ⟨_,D1 n1,?_⟩ | refine ⟨_,D1 n2,?_⟩ | refine ⟨_,D1 n3,?_⟩ | rw [h0] | cases b1 | cases b2 | cases b3)
    all_goals (conv=>whnf)
    all_goals first
     | (rw [no (by rfl)];exact ⟨rfl,rfl⟩)
     | (refine ⟨rfl,?_⟩;conv=>whnf
        exact nx hi' ⟨yes (by rw [e];rfl),by rw [B9 (by omega)],rfl⟩)
   ·have h0':0<i:=by have:=of_decide_eq_true h0;omega
    replace e:=e h0'
    have hw:=A6a h0' (by omega)
    repeat' ((conv=>whnf);first | refine ⟨rfl,⟨by omega,by omega⟩,?_⟩ | refine ⟨rfl,⟨by rw [hw];omega,by rw [hw];omega⟩,?_⟩ | refine ⟨_,D1 n1,?_⟩ | refine ⟨_,D1 n2,?_⟩ | refine ⟨_,D1 n3,?_⟩ | rw [h0] | cases b1 | cases b2 | cases b3 | refine C3 (fun h=>?_) (fun h=>?_))
    all_goals (conv=>whnf)
    all_goals first
     | (rw [no (by rfl)];exact ⟨rfl,rfl⟩)
     | (rw [hw] at h;rw [no (by rw [e];exact congrArg not h)];exact ⟨rfl,rfl⟩)
     | (rw [hw] at h;refine ⟨rfl,?_⟩;conv=>whnf
        exact nx hi' ⟨yes (by rw [e];exact congrArg not h),by rw [B9 (by omega)],rfl⟩)
theorem C5a (s:S6) (x:Ab.Item) (h1:Sm s.skus.length) (h2:Sm s.cats.length) (st:St):S P 118 [A2Q s,F1 x] st fun v st'=>v=.bool (A8G s x)∧st'=st:=by
 have e:A8G s x=(((s.skus.length:Int)==0&&(s.cats.length:Int)==0)||(s.skus.any fun y=>y.toList==x.sku.toList)||(s.cats.any fun y=>y.toList==x.cat.toList)):=by
  unfold A8G inB
  rw [A2G,A2G]
  congr 1
  ·congr 1
   ·rw [←Bool.coe_iff_coe];simp only [Bool.and_eq_true,beq_iff_eq];omega
   ·congr 1;funext y;exact Bool.beq_comm
  ·congr 1;funext y;exact Bool.beq_comm
 rw [e]
 have n1:=B5T s.skus x.sku h1 st
 have n2:=B5T s.cats x.cat h2 st
 generalize (s.skus.any fun y=>y.toList==x.sku.toList)=b1 at *
 generalize (s.cats.any fun y=>y.toList==x.cat.toList)=b2 at *
 refine A8 [2,3] B8 mixed Tryz.func118 (by rfl) rfl rfl rfl ?_
 clear e
 repeat' ((conv=>whnf);first | refine A7 n1 ?_ | refine A7 n2 ?_ | (refine C3 (fun h=>?_) (fun h=>?_)<;>rw [h]))
 all_goals (conv=>whnf)
 all_goals (refine ⟨?_,rfl⟩;show AV.bool _=AV.bool _;simp only [*,Bool.true_and,Bool.false_and,Bool.or_true,Bool.or_false,Bool.true_or,Bool.false_or])
theorem B6q {l:List G4} (h:∀ x∈l,lineC x=true) {i:Nat} (hi:i≤l.length):K7 (l.take i)≤K7 l∧J6 (l.take i)≤J6 l:=by
 have:∀ j,i+j≤l.length→K7 (l.take i)≤K7 (l.take (i+j))∧J6 (l.take i)≤J6 (l.take (i+j)):=by
  intro j
  induction j with
  | zero=>intro _;exact ⟨Int.le_refl _,Int.le_refl _⟩
  | succ j ih =>
   intro hj
   obtain ⟨h1,h2⟩:=ih (by omega)
   have hm:=B3 (l:=l) (i:=i+j) (by omega)
   have e1:K7 (l.take (i+j+1))=K7 (l.take (i+j))+(l.getD (i+j) default).qty:=P6 (by omega) _ _
   have e2:J6 (l.take (i+j+1))=J6 (l.take (i+j))+(l.getD (i+j) default).qty * (l.getD (i+j) default).price:=P6 (by omega) _ _
   have h3:=A9G (h _ hm)
   have h4:=(Y5 _).1 (h _ hm)
   rw [show i+(j+1)=i+j+1 by omega,e1,e2];omega
 have h2:=this (l.length - i) (by omega)
 rw [show i+(l.length - i)=l.length by omega,List.take_length] at h2;exact h2
theorem B5U (l:List G4) (st:St):S P 165 [B2 3 H2 l] st fun v st'=>v=eI (N3 (fun _=>true) l)∧st'=st:=by
 refine A8 [] B8 mixed Tryz.func165 (by rfl) rfl rfl rfl ?_;conv=>whnf
 refine C3 (fun h=>?_) (fun h=>?_)<;>rw [h]<;>simp only [decide_eq_true_eq,decide_eq_false_iff_not] at h
 ·conv=>whnf
  exact ⟨by rw [show N3 (fun _=>true) l=6 from if_pos (by omega)];rfl,rfl⟩
 have hs:l.length≤1000:=by omega
 have hc:N3 (fun _=>true) l=match l.find? (J0 (fun _=>true)) with
  | some x=>if (fun _=>true) x.sku=true then 2 else 7
  | none=>if (decide (K7 l>100000)||decide (J6 l>10000000000000))=true then 5 else 0:=if_neg (by omega)
 conv=>whnf
 refine lp l.length [0,3] (fun i vs s=>(∀ k,k<i→lineC (l.getD k default)=true)∧vs=[B2 3 H2 l,eI i]∧s=st) ?_ ?_
 ·conv=>whnf
  exact ⟨fun k hk=>absurd hk (by omega),rfl,rfl⟩
 ·rintro i vs st' hi ⟨hok,rfl,rfl⟩
  conv=>whnf
  cases h:decide ((i:Int)<(l.length:Int))
  ·obtain rfl:=C6 h hi
   have hall:∀ x∈l,lineC x=true:=fun x hx=>by obtain ⟨k,hk,rfl⟩:=E8 hx;exact hok k hk
   rw [A7I fun k hk=>by unfold J0;rw [hok k hk];rfl] at hc
   simp only at hc
   conv=>whnf
   refine lp l.length [0,4,5,6] (fun i vs s=>(0≤K7 (l.take i)∧K7 (l.take i)≤100000)∧(0≤J6 (l.take i)∧J6 (l.take i)≤10000000000000)∧vs=[B2 3 H2 l,eI (K7 (l.take i)),eI (J6 (l.take i)),eI i]∧s=st') ?_ ?_
   ·conv=>whnf
    exact ⟨⟨Int.le_refl _,by rw [List.take_zero];decide⟩,⟨Int.le_refl _,by rw [List.take_zero];decide⟩,rfl,rfl⟩
   ·rintro i vs st' hi ⟨hu,hg,rfl,rfl⟩
    conv=>whnf
    cases h:decide ((i:Int)<(l.length:Int))
    ·obtain rfl:=C6 h hi
     rw [List.take_length] at hu hg
     rw [if_neg (by rw [decide_eq_false (show ¬ K7 l>100000 by omega),decide_eq_false (show ¬ J6 l>10000000000000 by omega)];simp)] at hc;conv=>whnf
     exact ⟨by rw [hc];rfl,rfl⟩
    ·have hi':=E4 h
     have hx:lineC (l.getD (i:Int).toNat default)=true:=hall _ (B3 hi')
     obtain ⟨⟨q0,q1⟩,_⟩:=(Y5 _).1 hx
     obtain ⟨m0,m1⟩:=A9G hx
     have eu:K7 (l.take (i+1))=K7 (l.take i)+(l.getD (i:Int).toNat default).qty:=P6 hi' _ _
     have eg:J6 (l.take (i+1))=J6 (l.take i)+(l.getD (i:Int).toNat default).qty * (l.getD (i:Int).toNat default).price:=P6 hi' _ _
     have w1:IntKind.i64.wrap (K7 (l.take i)+(l.getD (i:Int).toNat default).qty)=K7 (l.take (i+1)):=by rw [eu];exact A9 (by omega) (by omega)
     have w2:IntKind.i64.wrap ((l.getD (i:Int).toNat default).qty * (l.getD (i:Int).toNat default).price)=(l.getD (i:Int).toNat default).qty * (l.getD (i:Int).toNat default).price:=A9 (by omega) (by omega)
     have w3:IntKind.i64.wrap (J6 (l.take i)+(l.getD (i:Int).toNat default).qty * (l.getD (i:Int).toNat default).price)=J6 (l.take (i+1)):=by rw [eg];exact A9 (by omega) (by omega)
     have hmono:=B6q hall (show i+1≤l.length from hi')
     have bad:K7 (l.take (i+1))>100000∨J6 (l.take (i+1))>10000000000000→N3 (fun _=>true) l=5:=fun hb=>by
      rw [hc]
      refine if_pos ?_
      rw [Bool.or_eq_true,decide_eq_true_eq,decide_eq_true_eq];omega
     conv=>whnf
     refine ⟨rfl,⟨by omega,by omega⟩,?_⟩;conv=>whnf
     rw [w1]
     refine ⟨[],[],List.range 14,by kernel_rfl,?_⟩;conv=>whnf
     refine ⟨rfl,⟨by omega,by omega⟩,?_⟩;conv=>whnf
     refine ⟨rfl,⟨by omega,by omega⟩,?_⟩;conv=>whnf
     rw [w2,w3]
     refine C3 (fun h1=>?_) (fun h1=>?_)<;>rw [h1]
     ·conv=>whnf
      exact ⟨by rw [bad (.inl (of_decide_eq_true h1))];rfl,rfl⟩
     ·conv=>whnf
      refine C3 (fun h2=>?_) (fun h2=>?_)<;>rw [h2]
      ·conv=>whnf
       exact ⟨by rw [bad (.inr (of_decide_eq_true h2))];rfl,rfl⟩
      ·conv=>whnf
       refine ⟨rfl,?_⟩;conv=>whnf
       have:=of_decide_eq_false h1
       have:=of_decide_eq_false h2
       exact nx hi' ⟨⟨by rw [eu];omega,by omega⟩,⟨by rw [eg];omega,by omega⟩,by rw [B9 (by omega)],rfl⟩
  ·have hi':=E4 h
   have n3:=A1M (l.getD (i:Int).toNat default).price 1000000000 st'
   have yes:lineC (l.getD (i:Int).toNat default)=true→∀ k,k<i+1→lineC (l.getD k default)=true:=fun h=>J8 hok h
   have no:lineC (l.getD (i:Int).toNat default)=false→N3 (fun _=>true) l=2:=fun h=>by
    rw [hc,A3j hi' (fun k hk=>by unfold J0;rw [hok k hk];rfl) (by unfold J0;rw [show lineC (l.getD i default)=false from h];rfl)]
    exact if_pos rfl
   have e:lineC (l.getD (i:Int).toNat default)=(!decide ((l.getD (i:Int).toNat default).qty<0)&&!decide ((l.getD (i:Int).toNat default).qty>100000)&&R4 0 1000000000 (l.getD (i:Int).toNat default).price):=by
    unfold lineC;congr 1;unfold R4;congr 1<;>(rw [←decide_not];exact decide_eq_decide.2 (by omega))
   rw [e] at yes no
   generalize R4 0 1000000000 (l.getD (i:Int).toNat default).price=b3 at n3 yes no
   clear e hc
   repeat' ((conv=>whnf);first | refine ⟨rfl,⟨by omega,by omega⟩,?_⟩ | refine A7 n3 ?_ | cases b3 | (refine C3 (fun h=>?_) (fun h=>?_)<;>rw [h]))
   all_goals (conv=>whnf)
   all_goals first
    | (refine ⟨?_,rfl⟩;rw [no (by simp only [*,Bool.not_true,Bool.false_and,Bool.and_false])];rfl)
    | (refine ⟨rfl,?_⟩;conv=>whnf
       exact nx hi' ⟨yes (by simp only [*,Bool.not_false,Bool.and_true]),by rw [B9 (by omega)],rfl⟩)
theorem B5a {kn:D6→Bool} {l:List G4} (h:∀ x∈l,J0 kn x=false):N3 kn l=N3 (fun _=>true) l:=by
 unfold N3
 rw [List.find?_eq_none.2 fun x hx=>by rw [h x hx];simp,List.find?_eq_none.2 fun x hx=>by
  have:=h x hx
  simp only [J0,Bool.not_eq_false',Bool.and_eq_true] at this
  unfold J0;rw [this.2];simp]
theorem C0O (items:List Ab.Item) (l:List G4) (hi:Sm items.length) (hl:Sm l.length) (st:St):S P 93 [B2 4 F1 items,B2 3 H2 l] st fun v st'=>v=eI (N3 (known items) l)∧st'=st:=by
 refine A8 [] B8 mixed Tryz.func93 (by rfl) rfl rfl rfl ?_;conv=>whnf
 refine lp l.length [0,1,5] (fun i vs s=>(∀ k,k<i→J0 (known items) (l.getD k default)=false)∧vs=[B2 4 F1 items,B2 3 H2 l,eI i]∧s=st) ?_ ?_
 ·conv=>whnf
  exact ⟨fun k hk=>absurd hk (by omega),rfl,rfl⟩
 ·rintro i vs st' hi2 ⟨hok,rfl,rfl⟩
  conv=>whnf
  cases h:decide ((i:Int)<(l.length:Int))
  ·obtain rfl:=C6 h hi2
   conv=>whnf
   refine A7 (B5U l _) ?_;conv=>whnf
   rw [B5a (kn:=known items) fun x hx=>by obtain ⟨k,hk,rfl⟩:=E8 hx;exact hok k hk]
   exact ⟨rfl,rfl⟩
  ·have hi':=E4 h
   conv=>whnf
   refine C3 (fun h1=>?_) (fun h1=>?_)<;>rw [h1]
   ·have hs:l.length≤1000:=by have:=of_decide_eq_true h1;omega
    have hc:N3 (known items) l=match l.find? (J0 (known items)) with
     | some x=>if known items x.sku=true then 2 else 7
     | none=>if (decide (K7 l>100000)||decide (J6 l>10000000000000))=true then 5 else 0:=if_neg (by omega)
    have n1:=B7c items (l.getD (i:Int).toNat default).sku hi st'
    have n3:=A1M (l.getD (i:Int).toNat default).price 1000000000 st'
    have yes:J0 (known items) (l.getD (i:Int).toNat default)=false→∀ k,k<i+1→J0 (known items) (l.getD k default)=false:=fun h=>J8 hok h
    have no:J0 (known items) (l.getD (i:Int).toNat default)=true→N3 (known items) l=if known items (l.getD i default).sku=true then 2 else 7:=fun h=>by
     rw [hc,A3j hi' hok h]
    have e:J0 (known items) (l.getD (i:Int).toNat default)=!(!decide (S8 items (l.getD (i:Int).toNat default).sku<0)&&(!decide ((l.getD (i:Int).toNat default).qty<0)&&!decide ((l.getD (i:Int).toNat default).qty>100000)&&R4 0 1000000000 (l.getD (i:Int).toNat default).price)):=by
     unfold J0 lineC known;congr 1;congr 1
     ·rw [←decide_not];exact decide_eq_decide.2 (by omega)
     ·congr 1;unfold R4;congr 1<;>(rw [←decide_not];exact decide_eq_decide.2 (by omega))
    have e2:known items (l.getD i default).sku=!decide (S8 items (l.getD (i:Int).toNat default).sku<0):=by
     unfold known;rw [←decide_not];exact decide_eq_decide.2 (by rw [Int.toNat_natCast];omega)
    rw [e] at yes no
    rw [e2] at no
    generalize S8 items (l.getD (i:Int).toNat default).sku=F at *
    generalize R4 0 1000000000 (l.getD (i:Int).toNat default).price=b3 at n3 yes no
    clear e e2 hc
    repeat' ((conv=>whnf);first | refine ⟨rfl,⟨by omega,by omega⟩,?_⟩ | refine A7 n1 ?_ | refine A7 n3 ?_ | cases b3 | (refine C3 (fun h=>?_) (fun h=>?_)<;>rw [h]))
    all_goals (conv=>whnf)
    all_goals first
     | (refine ⟨?_,rfl⟩;rw [no (by simp only [*,Bool.not_true,Bool.false_and,Bool.and_false,Bool.not_false]),if_neg (by simp only [*];simp)];rfl)
     | (refine ⟨?_,rfl⟩;rw [no (by simp only [*,Bool.not_true,Bool.false_and,Bool.and_false,Bool.not_false]),if_pos (by simp only [*,Bool.not_false])];rfl)
     | (refine ⟨rfl,?_⟩;conv=>whnf
        exact nx hi' ⟨yes (by simp only [*,Bool.not_false,Bool.and_true,Bool.not_true]),by rw [B9 (by omega)],rfl⟩)
   ·have:=of_decide_eq_false h1
    conv=>whnf
    refine A7 (B5U l _) ?_;conv=>whnf
    exact ⟨by rw [show N3 (known items) l=6 from if_pos (by omega),show N3 (fun _=>true) l=6 from if_pos (by omega)];rfl,rfl⟩
theorem C0U (l:List G4) (hl:l.length≤1000) (hok:∀ x∈l,lineC x=true) (hm:N3 (fun _=>true) l=0) (hN:(S9 l).length≤100000) (st:St):S P 94 [B2 3 H2 l] st fun v st'=>v=D0 (S9 l)∧st'=st:=by
 refine A0Z (ty:=158) ?_
 refine A8 [] B8 mixed Tryz.func94 (by rfl) rfl rfl rfl ?_;conv=>whnf
 refine A7 (B5U l _) ?_
 rw [hm];conv=>whnf
 refine lp l.length [0,3,4] (fun i vs s=>∃ sv,vs=[B2 3 H2 l,sv,eI i]∧F2 158 3 U9 (G5 l i) st sv s) ?_ ?_
 ·conv=>whnf
  exact ⟨.emp,rfl,F2.start _ _ _ _⟩
 ·rintro i vs st' hi ⟨sv,rfl,hc⟩
  conv=>whnf
  cases h:decide ((i:Int)<(l.length:Int))
  ·obtain rfl:=C6 h hi
   conv=>whnf
   exact hc
  ·have hi':=E4 h
   have hx:lineC (l.getD (i:Int).toNat default)=true:=hok _ (B3 hi')
   obtain ⟨⟨q0,q1⟩,_⟩:=(Y5 _).1 hx
   have hq:(l.getD (i:Int).toNat default).qty=((l.getD i default).qty.toNat:Int):=by rw [Int.toNat_natCast] at *;omega
   have hlt:=fun {j} (hj:j<(l.getD i default).qty.toNat)=>B0z hi' hj
   generalize hn:(l.getD i default).qty.toNat=n at *
   conv=>whnf
   refine lp n [0,3,4,5] (fun j vs s=>∃ sv,vs=[B2 3 H2 l,sv,eI i,eI j]∧F2 158 3 U9 (G5 l i++List.replicate j (lnU l i)) st sv s) ?_ ?_
   ·conv=>whnf
    exact ⟨sv,rfl,by rw [List.replicate_zero,List.append_nil];exact hc⟩
   ·clear hc
    rintro j vs s hj ⟨sv,rfl,hc⟩
    conv=>whnf
    refine ⟨rfl,⟨by omega,by omega⟩,?_⟩;conv=>whnf
    rw [hq]
    cases h:decide ((j:Int)<(n:Int))
    ·obtain rfl:=C6 h hj
     conv=>whnf
     refine ⟨rfl,?_⟩;conv=>whnf
     refine nx hi' ⟨sv,by rw [B9 (by omega)],?_⟩
     unfold G5;rw [hn];exact hc
    ·have hj':=E4 h
     have h5:=hlt hj'
     have h6:(G5 l l.length).length≤100000:=hN
     conv=>whnf
     refine ⟨rfl,⟨by omega,by omega⟩,?_⟩;conv=>whnf
     refine F2.app (q:=B8s) (y:=lnU l i) rfl rfl rfl rfl rfl rfl (by show (_+1) * 24≤140737488355328;omega) hc (fun sv' s' hc'=>?_);conv=>whnf
     refine ⟨rfl,?_⟩;conv=>whnf
     exact nx hj' ⟨sv',by rw [B9 (by omega)],by rw [List.replicate_succ',←List.append_assoc];exact hc'⟩
theorem B4k (items:List Ab.Item) (l:List G4) (hi:Sm items.length) (hl:l.length≤1000) (hk:∀ x∈l,known items x.sku=true) (st:St):S P 95 [B2 4 F1 items,B2 3 H2 l] st fun v st'=>v=B2 4 F1 (C2 items l)∧st'=st:=by
 refine A0Z (ty:=76) ?_
 refine A8 [] B8 mixed Tryz.func95 (by rfl) rfl rfl rfl ?_;conv=>whnf
 refine lp l.length [0,1,5,6] (fun i vs s=>∃ sv,vs=[B2 4 F1 items,B2 3 H2 l,sv,eI i]∧F2 76 4 F1 (C2 items (l.take i)) st sv s) ?_ ?_
 ·conv=>whnf
  exact ⟨.emp,rfl,F2.start _ _ _ _⟩
 ·rintro i vs st' hi2 ⟨sv,rfl,hc⟩
  conv=>whnf
  cases h:decide ((i:Int)<(l.length:Int))
  ·obtain rfl:=C6 h hi2
   rw [List.take_length] at hc;conv=>whnf
   exact hc
  ·have hi':=E4 h
   have hmem:l.getD (i:Int).toNat default∈l:=B3 hi'
   have hkn:=hk _ hmem
   simp only [known,decide_eq_true_eq] at hkn
   have hlt:=(A9z (fun x:Ab.Item=>x.sku.toList==(l.getD (i:Int).toNat default).sku.toList) items).2
   have hlen:(C2 items (l.take i)).length=i:=by unfold C2;rw [List.length_map,List.length_take];omega
   conv=>whnf
   refine ⟨rfl,⟨by omega,by omega⟩,?_⟩;conv=>whnf
   refine A7 (B7c items (l.getD (i:Int).toNat default).sku (by omega) _) ?_;conv=>whnf
   refine C3 (fun h1=>?_) (fun h1=>?_)
   ·exact absurd (of_decide_eq_true h1) (by omega)
   ·rw [h1];conv=>whnf
    refine ⟨rfl,⟨by omega,by omega⟩,?_⟩;conv=>whnf
    refine F2.app (q:=r76) (y:=items.getD (S8 items (l.getD (i:Int).toNat default).sku).toNat default) rfl rfl rfl rfl rfl rfl (by show (_+1) * 48≤140737488355328;omega) hc (fun sv' s' hc'=>?_);conv=>whnf
    refine ⟨rfl,?_⟩;conv=>whnf
    refine nx hi' ⟨sv',by rw [B9 (by omega)],?_⟩
    unfold C2 at hc' ⊢
    rw [A2w hi'];exact hc'
end Go.Proofs.YthdimklenlikgaaGreat
namespace Go.Proofs.YthdimklenlikgaaGreat
open Go Go.Ab
theorem B1D (l:List B4) (o:List Int):(N9 l o).Perm o:=by
 have h:=(A0A l o).map fun e:QE=>gI o e.2.toNat
 rw [List.map_map] at h
 have e:(List.range o.length).map ((fun e:QE=>gI o e.2.toNat) ∘ B0d l o)=o:=by
  refine List.ext_getElem (by simp) fun k h1 h2=>?_
  rw [List.getElem_map,List.getElem_range]
  show o.getD k default=_
  rw [List.getD_eq_getElem?_getD,List.getElem?_eq_getElem h2];rfl
 rw [e] at h;exact h
end Go.Proofs.YthdimklenlikgaaGreat
namespace Go.Proofs.YthdimklenlikgaaGreat
open Go Go.Ab
attribute [local irreducible] upd del
def C5 (v n:Int):Int:=v % 18446744073709551616 % n
theorem E5 (v:Int) {n:Int} (h:0<n):0≤C5 v n∧C5 v n<n:=⟨Int.emod_nonneg _ (by omega),Int.emod_lt_of_pos _ h⟩
theorem B7t (x:Int):IntKind.u64.wrap x=x % 18446744073709551616:=rfl
theorem C0r (v:Int) {n:Int} (h0:0<n) (h1:n≤9223372036854775807):IntKind.i64.wrap (Int.tmod (IntKind.u64.wrap v) (IntKind.u64.wrap n))=C5 v n:=by
 have h2:=E5 v h0
 have e1:IntKind.u64.wrap n=n:=by rw [B7t];omega
 have e2:Int.tmod (IntKind.u64.wrap v) n=C5 v n:=by rw [Int.tmod_eq_emod_of_nonneg (by rw [B7t];omega)];rfl
 rw [e1,e2,A9 (by omega) (by omega)]
theorem A0y (v n:Int) (h0:0<n) (h1:n≤9223372036854775807) (st:St):S P 26 [eI v,eI n] st fun r st'=>r=eI (C5 v n)∧st'=st:=by
 refine A8 [] B8 mixed Tryz.func26 (by rfl) rfl rfl rfl ?_;conv=>whnf
 rw [decide_eq_false (show ¬ IntKind.u64.wrap n=0 by rw [B7t];omega)];conv=>whnf
 refine ⟨?_,rfl⟩
 rw [←C0r v h0 h1];rfl
theorem N7 (v n:Int) (h0:0<n) (h1:n≤9223372036854775807) (st:St):S P 75 [eI v,eI n] st fun r st'=>r=eI (C5 v n)∧st'=st:=by
 refine A8 [] B8 mixed Tryz.func75 (by rfl) rfl rfl rfl ?_;conv=>whnf
 rw [decide_eq_false (show ¬ IntKind.u64.wrap n=0 by rw [B7t];omega)];conv=>whnf
 refine ⟨?_,rfl⟩
 rw [←C0r v h0 h1];rfl
def U8 (c:Int):D6:=B0t [IntKind.u8.wrap c]
def A0W (n:Int):D6:=U8 (97+C5 n 8)
def A4r (n:Int):D6:=U8 (120+C5 n 3)
def idN (n:Int):D6:=(⟨#[112]⟩:D6)++U8 (48+C5 n 10)
def A4h (n:Int):D6:=(⟨#[99]⟩:D6)++U8 (48+C5 n 3)
theorem B0B (c x:Int):IntKind.u8.wrap (c+IntKind.u8.wrap x)=IntKind.u8.wrap (c+x):=by
 show (c+x % 256) % 256=(c+x) % 256
 omega
theorem C1h (n:Int) (st:St):S P 79 [eI n] st fun r st'=>r=eS (A0W n)∧st'=st:=by
 refine A8 [] B8 mixed Tryz.func79 (by rfl) rfl rfl rfl ?_;conv=>whnf
 refine A7 (A0y n 8 (by decide) (by decide) _) ?_;conv=>whnf
 refine ⟨?_,rfl⟩
 show AV.str (B0t [IntKind.u8.wrap (97+IntKind.u8.wrap (C5 n 8))])=_
 rw [B0B];rfl
theorem A3N (n:Int) (st:St):S P 119 [eI n] st fun r st'=>r=eS (A4r n)∧st'=st:=by
 refine A8 [] B8 mixed Tryz.func119 (by rfl) rfl rfl rfl ?_;conv=>whnf
 refine A7 (A0y n 3 (by decide) (by decide) _) ?_;conv=>whnf
 refine ⟨?_,rfl⟩
 show AV.str (B0t [IntKind.u8.wrap (120+IntKind.u8.wrap (C5 n 3))])=_
 rw [B0B];rfl
theorem C9d (n:Int) (st:St):S P 235 [eI n] st fun r st'=>r=eS (idN n)∧st'=st:=by
 refine A8 [] B8 mixed Tryz.func235 (by rfl) rfl rfl rfl ?_;conv=>whnf
 refine A7 (A0y n 10 (by decide) (by decide) _) ?_;conv=>whnf
 refine ⟨?_,rfl⟩
 show AV.str ((⟨#[112]⟩:D6)++B0t [IntKind.u8.wrap (48+IntKind.u8.wrap (C5 n 10))])=_
 rw [B0B];rfl
theorem B9O (n:Int) (st:St):S P 78 [eI n] st fun r st'=>r=eS (A4h n)∧st'=st:=by
 refine A8 [] B8 mixed Tryz.func78 (by rfl) rfl rfl rfl ?_;conv=>whnf
 refine A7 (A0y n 3 (by decide) (by decide) _) ?_;conv=>whnf
 refine ⟨?_,rfl⟩
 show AV.str ((⟨#[99]⟩:D6)++B0t [IntKind.u8.wrap (48+IntKind.u8.wrap (C5 n 3))])=_
 rw [B0B];rfl
def B2w (s:D6):Nat→Int
 | 0=>s.size
 | i+1=>IntKind.i64.wrap (IntKind.i64.wrap (7 * B2w s i)+chr s i)
def A2H (s:D6):Int:=B2w s (min s.size 8)
theorem B9L (s:D6) (i:Nat):0≤chr s i∧chr s i<256:=by
 unfold chr;split
 ·rename_i h;have:=(s[i]'h).toNat_lt;omega
 ·omega
theorem A9Q (s:D6) (st:St):S P 80 [eS s] st fun r st'=>r=eI (A2H s)∧st'=st:=by
 refine A8 [] B8 mixed Tryz.func80 (by rfl) rfl rfl rfl ?_;conv=>whnf
 refine lp (min s.size 8) [0,3,4] (fun i vs t=>vs=[eS s,eI (B2w s i),eI i]∧t=st) ?_ ?_
 ·conv=>whnf
  exact ⟨rfl,rfl⟩
 ·rintro i vs t hi ⟨rfl,rfl⟩
  conv=>whnf
  refine C3 (fun h1=>?_) (fun h1=>?_)<;>rw [h1]<;>simp only [decide_eq_true_eq,decide_eq_false_iff_not] at h1
  ·conv=>whnf
   refine C3 (fun h2=>?_) (fun h2=>?_)<;>rw [h2]<;>simp only [decide_eq_true_eq,decide_eq_false_iff_not] at h2
   ·have hi':i<min s.size 8:=by omega
    conv=>whnf
    refine C2J (i:=i) rfl (by omega) ?_;conv=>whnf
    refine ⟨rfl,?_⟩;conv=>whnf
    refine nx hi' ⟨?_,rfl⟩
    rw [B9 (by omega)]
    have hc:IntKind.i64.wrap (chr s i)=chr s i:=A9 (by have:=B9L s i;omega) (by have:=B9L s i;omega)
    show [eS s,eI (IntKind.i64.wrap (IntKind.i64.wrap (7 * B2w s i)+IntKind.i64.wrap (chr s i))),eI ((i+1:Nat):Int)]=_
    rw [hc];rfl
   ·obtain rfl:i=min s.size 8:=by omega
    conv=>whnf
    exact ⟨rfl,rfl⟩
  ·obtain rfl:i=min s.size 8:=by omega
   conv=>whnf
   exact ⟨rfl,rfl⟩
def B9Z (r:I4):Bool:=decide ((r.items.length:Int)<60)&&decide ((r.promos.length:Int)<30)&&decide ((r.tax.zones.length:Int)<30)&&decide ((r.policy.order.length:Int)<30)&&decide ((r.policy.credit.length:Int)<30)
theorem C5N (r:I4) (st:St):S P 23 [H6 r] st fun v st'=>v=.bool (B9Z r)∧st'=st:=by
 refine A8 [1] B8 mixed Tryz.func23 (by rfl) rfl rfl rfl ?_
 unfold B9Z
 repeat' ((conv=>whnf);first | (refine C3 (fun h=>?_) (fun h=>?_)<;>rw [h]))
 all_goals (conv=>whnf)
 all_goals exact ⟨by simp only [Bool.true_and,Bool.false_and];rfl,rfl⟩
def A5c (l:List D6) (most:Nat) (kinds:Int) (name:Int→D6) (out:List D6) (k:Nat):List D6 :=
 if (decide (out.length<most)&&(l.take 4).any fun s=>C5 (A2H s) kinds==k)=true then out++[name k] else out
def Q1 (l:List D6) (most:Nat) (kinds:Int) (name:Int→D6) (k:Nat):List D6:=(List.range k).foldl (A5c l most kinds name) []
theorem A5d (l:List D6) (most:Nat) (kinds:Int) (name:Int→D6) (k:Nat):Q1 l most kinds name (k+1)=A5c l most kinds name (Q1 l most kinds name k) k:=by
 unfold Q1;rw [List.range_succ,List.foldl_append];rfl
theorem B6e (l:List D6) (most:Nat) (kinds:Int) (name:Int→D6) (k:Nat):(Q1 l most kinds name k).length≤k:=by
 induction k with
 | zero=>exact Nat.le_refl _
 | succ k ih =>
  rw [A5d];unfold A5c
  split
  ·rw [List.length_append];show _+1≤_;omega
  ·omega
theorem B6f (l:List D6) (most kinds:Nat) (name:Int→D6) (g:FuncId) (hk:0<kinds) (hk2:kinds≤100) (hg:∀ (n:Int) (st:St),S P g [eI n] st fun v st'=>v=eS (name n)∧st'=st) (st:St) :
  S P 77 [D3 l,eI most,eI kinds,.fn (.func g) [] []] st fun v st'=>v=D3 (Q1 l most kinds name kinds)∧st'=st:=by
 refine A0Z (ty:=9) ?_
 refine A8 [] B8 mixed Tryz.func77 (by rfl) rfl rfl rfl ?_;conv=>whnf
 refine lp kinds [0,1,2,3,9,10] (fun k vs s=>∃ sv,vs=[D3 l,eI most,eI kinds,.fn (.func g) [] [],sv,eI k]∧F2 9 1 eS (Q1 l most kinds name k) st sv s) ?_ ?_
 ·conv=>whnf
  exact ⟨.emp,rfl,F2.start _ _ _ _⟩
 ·rintro k vs s hk1 ⟨sv,rfl,hc⟩
  conv=>whnf
  cases hd:decide ((k:Int)<(kinds:Int))
  ·obtain rfl:=C6 hd hk1
   conv=>whnf
   exact hc
  ·have hk':=E4 hd
   have hlen:=B6e l most kinds name k
   have hS:=A5d l most kinds name k
   unfold A5c at hS;conv=>whnf
   refine lp (min l.length 4) [0,1,2,3,9,10,11] (fun i vs t=>(∀ j,j<i→(C5 (A2H (l.getD j default)) kinds==k)=false)∧vs=[D3 l,eI most,eI kinds,.fn (.func g) [] [],sv,eI k,eI i]∧t=s) ?_ ?_
   ·conv=>whnf
    exact ⟨fun j hj=>absurd hj (by omega),rfl,rfl⟩
   ·rintro i vs t hi ⟨hok,rfl,rfl⟩
    have hstop:i=min l.length 4→((l.take 4).any fun s=>C5 (A2H s) kinds==k)=false:=fun e=>by
     refine List.any_eq_false.2 fun x hx=>?_
     obtain ⟨j,hj,rfl⟩:=E8 hx
     rw [List.length_take] at hj
     rw [show (l.take 4).getD j default=l.getD j default by rw [List.getD_eq_getElem?_getD,List.getD_eq_getElem?_getD,List.getElem?_take_of_lt (by omega)],hok j (by omega)]
     simp
    have hsv:(sv=.emp∧(Q1 l most kinds name k).length=0)∨∃ b,sv=.own 1 b 0 (Q1 l most kinds name k).length:=by
     rcases hc with ⟨h0,h1,_⟩ | ⟨_,b,_,_,h1,_⟩
     ·exact .inl ⟨h1,h0⟩
     ·exact .inr ⟨b,h1⟩
    have hrun:∀ {t':St} {sv':AV},F2 9 1 eS (Q1 l most kinds name (k+1)) st sv' t'→∃ sv,[D3 l,eI most,eI kinds,.fn (.func g) [] [],sv',eI (IntKind.i64.wrap ((k:Int)+1))]=[D3 l,eI most,eI kinds,.fn (.func g) [] [],sv,eI ((k+1:Nat):Int)]∧F2 9 1 eS (Q1 l most kinds name (k+1)) st sv t':=fun {t' sv'} h=>⟨sv',by rw [B9 (by omega)],h⟩
    conv=>whnf
    refine C3 (fun h1=>?_) (fun h1=>?_)<;>rw [h1]<;>simp only [decide_eq_true_eq,decide_eq_false_iff_not] at h1
    ·conv=>whnf
     refine C3 (fun h2=>?_) (fun h2=>?_)<;>rw [h2]<;>simp only [decide_eq_true_eq,decide_eq_false_iff_not] at h2
     ·have hi':i<min l.length 4:=by omega
      rcases hsv with ⟨rfl,hl0⟩ | ⟨b,rfl⟩
      all_goals
       conv=>whnf
       refine C3 (fun h3=>?_) (fun h3=>?_)<;>rw [h3]<;>simp only [decide_eq_true_eq,decide_eq_false_iff_not] at h3
       ·conv=>whnf
        refine ⟨rfl,⟨by omega,by omega⟩,?_⟩;conv=>whnf
        refine A7 (A9Q _ _) ?_;conv=>whnf
        refine A7 (A0y _ (kinds:Int) (by omega) (by omega) _) ?_;conv=>whnf
        cases h4:(C5 (A2H (l.getD (i:Int).toNat default)) (kinds:Int)==(k:Int))
        ·conv=>whnf
         refine ⟨rfl,?_⟩;conv=>whnf
         exact nx hi' ⟨J8 hok h4,by rw [B9 (by omega)],rfl⟩
        ·have hm:(decide ((Q1 l most kinds name k).length<most)&&(l.take 4).any fun s=>C5 (A2H s) kinds==k)=true:=by
          rw [Bool.and_eq_true,decide_eq_true_eq,List.any_eq_true]
          refine ⟨by omega,l.getD (i:Int).toNat default,?_,h4⟩
          rw [show l.getD (i:Int).toNat default=(l.take 4).getD i default by rw [List.getD_eq_getElem?_getD,List.getD_eq_getElem?_getD,List.getElem?_take_of_lt (by omega)];rfl]
          exact B3 (by rw [List.length_take];omega)
         rw [if_pos hm] at hS;conv=>whnf
         refine A7 (hg _ _) ?_;conv=>whnf
         refine F2.app (q:=r9) rfl rfl rfl rfl rfl (by rfl) (by show ((Q1 l most kinds name k).length+1) * 16≤140737488355328;omega) hc (fun sv' t' hc'=>?_);conv=>whnf
         refine ⟨rfl,?_⟩;conv=>whnf
         exact nx hk' (hrun (by rw [hS];exact hc'))
       ·rw [if_neg (by rw [decide_eq_false (by omega)];simp)] at hS;conv=>whnf
        refine ⟨rfl,?_⟩;conv=>whnf
        exact nx hk' (hrun (by rw [hS];exact hc))
     ·rw [if_neg (by rw [hstop (by omega)];simp)] at hS;conv=>whnf
      refine ⟨rfl,?_⟩;conv=>whnf
      exact nx hk' (hrun (by rw [hS];exact hc))
    ·rw [if_neg (by rw [hstop (by omega)];simp)] at hS;conv=>whnf
     refine ⟨rfl,?_⟩;conv=>whnf
     exact nx hk' (hrun (by rw [hS];exact hc))
def O7 (s:S6):S6:=⟨Q1 s.skus 3 8 A0W 8,Q1 s.cats 2 3 A4r 3⟩
theorem B4i (s:S6) (st:St):S P 236 [A2Q s] st fun v st'=>v=A2Q (O7 s)∧st'=st:=by
 have h1:=fun st=>B6f s.skus 3 8 A0W 79 (by decide) (by decide) C1h st
 have h2:=fun st=>B6f s.cats 2 3 A4r 119 (by decide) (by decide) A3N st
 unfold O7
 generalize Q1 s.skus 3 8 A0W 8=a at h1 ⊢
 generalize Q1 s.cats 2 3 A4r 3=b at h2 ⊢
 refine A1u ?_
 refine A8 [1] B8 mixed Tryz.func236 (by rfl) rfl rfl rfl ?_;conv=>whnf
 intro b2 hb;conv=>whnf
 refine ⟨[7],[],List.range 8,by kernel_rfl,?_⟩;conv=>whnf
 refine ⟨_,D1 (h1 _),?_⟩;conv=>whnf
 refine ⟨_,D1 (h2 _),?_⟩;conv=>whnf
 refine G6 (A0 ..) rfl (by omega) rfl (by rfl) ?_;conv=>whnf
 refine D9 (A0 ..) rfl (by omega) (A2 ..) ?_;conv=>whnf
 exact ⟨rfl,((D7.refl st).upd hb).over hb⟩
def A0z (l:List D6):List D6:=Q1 l 3 3 A4h 3
theorem B3X (l:List D6) (st:St):S P 18 [D3 l] st fun v st'=>v=D3 (A0z l)∧st'=st:=by
 refine A8 [] B8 mixed Tryz.func18 (by rfl) rfl rfl rfl ?_;conv=>whnf
 refine A7 (B6f l 3 3 A4h 78 (by decide) (by decide) B9O _) ?_;conv=>whnf
 exact ⟨rfl,rfl⟩
def A0R (x:G4):G4:=⟨A0W (A2H x.sku),C5 x.qty 10,C5 x.price 4000⟩
def V9 (l:List G4):List G4:=(l.take 8).map A0R
theorem B2B (l:List G4) (st:St):S P 19 [B2 3 H2 l] st fun v st'=>F2 56 3 H2 (V9 l) st v st':=by
 refine A8 [] B8 mixed Tryz.func19 (by rfl) rfl rfl rfl ?_;conv=>whnf
 refine lp (min l.length 8) [0,3,4] (fun i vs s=>∃ sv,vs=[B2 3 H2 l,sv,eI i]∧F2 56 3 H2 ((l.take i).map A0R) st sv s) ?_ ?_
 ·conv=>whnf
  exact ⟨.emp,rfl,F2.start _ _ _ _⟩
 ·rintro i vs s hi ⟨sv,rfl,hc⟩
  have hfin:i=min l.length 8→F2 56 3 H2 (V9 l) st sv s:=fun e=>by
   have:V9 l=(l.take i).map A0R:=by
    unfold V9
    rcases Nat.le_total l.length 8 with h | h
    ·rw [show i=l.length by omega,List.take_length,List.take_of_length_le h]
    ·rw [show i=8 by omega]
   rw [this];exact hc
  conv=>whnf
  refine C3 (fun h1=>?_) (fun h1=>?_)<;>rw [h1]<;>simp only [decide_eq_true_eq,decide_eq_false_iff_not] at h1
  ·conv=>whnf
   refine C3 (fun h2=>?_) (fun h2=>?_)<;>rw [h2]<;>simp only [decide_eq_true_eq,decide_eq_false_iff_not] at h2
   ·have hi':i<min l.length 8:=by omega
    conv=>whnf
    refine ⟨[21,22],[],List.range 24,by kernel_rfl,?_⟩;conv=>whnf
    refine ⟨rfl,⟨by omega,by omega⟩,?_⟩;conv=>whnf
    refine ⟨_,D1 (A9Q _ _),?_⟩;conv=>whnf
    refine ⟨_,D1 (C1h _ _),?_⟩;conv=>whnf
    refine ⟨rfl,⟨by omega,by omega⟩,?_⟩;conv=>whnf
    refine ⟨_,D1 (A0y _ 10 (by decide) (by decide) _),?_⟩;conv=>whnf
    refine ⟨rfl,⟨by omega,by omega⟩,?_⟩;conv=>whnf
    refine ⟨_,D1 (N7 _ 4000 (by decide) (by decide) _),?_⟩;conv=>whnf
    refine F2.app (y:=A0R (l.getD (i:Int).toNat default)) (q:=r56) rfl rfl rfl rfl rfl (by rfl) (by show (((l.take i).map A0R).length+1) * 32≤140737488355328;rw [List.length_map,List.length_take];omega) hc (fun sv' t' hc'=>?_);conv=>whnf
    refine ⟨rfl,?_⟩;conv=>whnf
    refine nx hi' ⟨sv',by rw [B9 (by omega)],?_⟩
    rw [I6 (by omega),List.map_append];exact hc'
   ·conv=>whnf
    exact hfin (by omega)
  ·conv=>whnf
   exact hfin (by omega)
theorem B4b (l:List G4) (st:St):S P 19 [B2 3 H2 l] st fun v st'=>v=B2 3 H2 (V9 l)∧st'=st:=A0Z (B2B l st)
def O5 (l:List Ab.Item) (k:Nat):Ab.Item :=
 if k<l.length then ⟨A0W k,A4r (A2H (l.getD k default).cat),C5 (l.getD k default).price 4000,(l.getD k default).final&&k==7⟩ else ⟨A0W k,A4r k,100+37 * k,false⟩
def O0 (l:List Ab.Item):List Ab.Item:=(List.range 8).map (O5 l)
theorem A4N {α : Type} (f:Nat→α) (k:Nat):(List.range (k+1)).map f=(List.range k).map f++[f k]:=by rw [List.range_succ,List.map_append];rfl
theorem B3Z (l:List Ab.Item) (st:St):S P 43 [B2 4 F1 l] st fun v st'=>v=B2 4 F1 (O0 l)∧st'=st:=by
 refine S.post (post:=fun v st'=>∃ base,D7 st base∧F2 76 4 F1 (O0 l) base v st') ?_ (fun v st' ⟨base,hs,hc⟩=>⟨_,st,⟨rfl,rfl⟩,hc.shift.trans (hs.shift _)⟩)
 refine A8 [] B8 mixed Tryz.func43 (by rfl) rfl rfl rfl ?_;conv=>whnf
 refine lp 8 [0,3,4] (fun k vs s=>∃ sv base,vs=[B2 4 F1 l,sv,eI k]∧D7 st base∧F2 76 4 F1 ((List.range k).map (O5 l)) base sv s) ?_ ?_
 ·conv=>whnf
  exact ⟨.emp,st,rfl,D7.refl _,F2.start _ _ _ _⟩
 ·rintro k vs s hk ⟨sv,base,rfl,hsup,hc⟩
  conv=>whnf
  refine C3 (fun h1=>?_) (fun h1=>?_)<;>rw [h1]<;>simp only [decide_eq_true_eq,decide_eq_false_iff_not] at h1
  ·have hk':k<8:=by omega
   have hnext:=A4N (O5 l) k
   have hlen:((List.range k).map (O5 l)).length=k:=by rw [List.length_map,List.length_range]
   have w1:IntKind.i64.wrap (100+IntKind.i64.wrap (37 * (k:Int)))=100+37 * (k:Int):=by
    rw [A9 (x:=37 * (k:Int)) (by omega) (by omega),A9 (by omega) (by omega)]
   conv=>whnf
   refine A7 (C1h _ _) ?_;conv=>whnf
   refine A7 (A3N _ _) ?_;conv=>whnf
   intro b hb;conv=>whnf
   refine G6 (A0 ..) rfl (by omega) rfl (by rfl) ?_
   rw [B7]
   have hbb:base b=none:=M8.off hc hb
   have hc1:=fun y=>M8.under (y:=y) hc hb
   have hend:∀ {t:St} {Y:R3} {x:AV} {g:Nat→AV} {K:KK},t=upd s b Y→X9 4 t x=some (1,g)→g 0=F1 (O5 l k)→(∀ sv' t',F2 76 4 F1 ((List.range (k+1)).map (O5 l)) (upd base b Y) sv' t'→K sv' t')→A5j T 22 sv x t K:=fun {t Y x g K} e hs hg hk=>by
    subst e
    refine F2.app (q:=r76) rfl rfl rfl rfl hs hg (by rw [hlen];show (k+1) * 48≤140737488355328;omega) (hc1 Y) (fun sv' t' hc'=>hk sv' t' ?_)
    rw [hnext];exact hc'
   conv=>whnf
   refine C3 (fun h2=>?_) (fun h2=>?_)<;>rw [h2]<;>simp only [decide_eq_true_eq,decide_eq_false_iff_not] at h2
   ·have hi:k<l.length:=by omega
    have hp:O5 l k=⟨A0W k,A4r (A2H (l.getD (k:Int).toNat default).cat),C5 (l.getD (k:Int).toNat default).price 4000,(l.getD (k:Int).toNat default).final&&k==7⟩:=by unfold O5;rw [if_pos hi];rfl
    conv=>whnf
    refine ⟨[23,25,27],[],List.range 28,by kernel_rfl,?_⟩;conv=>whnf
    refine ⟨rfl,⟨by omega,by omega⟩,?_⟩;conv=>whnf
    refine ⟨_,D1 (A9Q _ _),?_⟩;conv=>whnf
    refine ⟨_,D1 (A3N _ _),?_⟩;conv=>whnf
    refine ⟨rfl,⟨by omega,by omega⟩,?_⟩;conv=>whnf
    refine ⟨_,D1 (N7 _ 4000 (by decide) (by decide) _),?_⟩;conv=>whnf
    refine ⟨rfl,⟨by omega,by omega⟩,?_⟩;conv=>whnf
    refine C3 (fun h3=>?_) (fun h3=>?_)<;>rw [h3] at hp ⊢
    all_goals
     conv=>whnf
     refine G6 (A0 ..) rfl (by omega) (A2 ..) (by rfl) ?_
     rw [B7];conv=>whnf
     refine G6 (A0 ..) rfl (by omega) (A2 ..) (by rfl) ?_
     rw [B7];conv=>whnf
     refine G6 (A0 ..) rfl (by omega) (A2 ..) (by rfl) ?_
     rw [B7];conv=>whnf
     refine D9 (A0 ..) rfl (by omega) (A2 ..) ?_;conv=>whnf
     refine hend rfl rfl (by rw [hp];first | rfl | (have e7:((k:Int)==7)=(k==7):=by rw [Bool.eq_iff_iff,beq_iff_eq,beq_iff_eq];omega
                                                    rw [Bool.true_and,←e7];rfl)) (fun sv' t' hc'=>?_)
     conv=>whnf
     refine ⟨rfl,?_⟩;conv=>whnf
     exact nx hk' ⟨sv',_,by rw [B9 (by omega)],hsup.upd hbb,hc'⟩
   ·have hi:¬ k<l.length:=by omega
    have hp:O5 l k=⟨A0W k,A4r k,100+37 * k,false⟩:=by unfold O5;rw [if_neg hi]
    conv=>whnf
    refine D9 (A0 ..) rfl (by omega) (A2 ..) ?_;conv=>whnf
    refine hend rfl rfl (by rw [hp];show AV.agg _=_;rw [w1];rfl) (fun sv' t' hc'=>?_);conv=>whnf
    refine ⟨rfl,?_⟩;conv=>whnf
    exact nx hk' ⟨sv',_,by rw [B9 (by omega)],hsup.upd hbb,hc'⟩
  ·obtain rfl:k=8:=by omega
   conv=>whnf
   exact ⟨base,hsup,hc⟩
def A4J (l:List Int) (out:List Int) (i:Nat):List Int:=if (out.any fun y=>y==1+C5 (gI l i) 5)=true then out else out++[1+C5 (gI l i) 5]
def P1 (l:List Int) (n:Nat):List Int:=(List.range n).foldl (A4J l) []
theorem A4K (l:List Int) (n:Nat):P1 l (n+1)=A4J l (P1 l n) n:=by unfold P1;rw [List.range_succ,List.foldl_append];rfl
theorem A9A (l:List Int) (n:Nat):(P1 l n).length≤n:=by
 induction n with
 | zero=>exact Nat.le_refl _
 | succ n ih =>
  rw [A4K];unfold A4J
  split
  ·omega
  ·rw [List.length_append];show _+1≤_;omega
def N0 (l:List Int):List Int:=P1 l (min l.length 6)
theorem B0M (l:List Int) (k:Int) (j:Nat) (hj:j<l.length):((l.take (j+1)).any fun y=>y==k)=((l.take j).any (fun y=>y==k)||(gI l j==k)):=by
 rw [I6 hj,List.any_append];simp
theorem A8q (l:List Int) (st:St):S P 76 [A6 l] st fun v st'=>v=A6 (N0 l)∧st'=st:=by
 refine A0Z (ty:=3) ?_
 refine A8 [] B8 mixed Tryz.func76 (by rfl) rfl rfl rfl ?_;conv=>whnf
 refine lp (min l.length 6) [0,3,4] (fun i vs s=>∃ sv,vs=[A6 l,sv,eI i]∧F2 3 1 eI (P1 l i) st sv s) ?_ ?_
 ·conv=>whnf
  exact ⟨.emp,rfl,F2.start _ _ _ _⟩
 ·rintro i vs s hi ⟨sv,rfl,hc⟩
  have hlen:=A9A l i
  have hfin:i=min l.length 6→F2 3 1 eI (N0 l) st sv s:=fun e=>by unfold N0;rw [←e];exact hc
  conv=>whnf
  refine C3 (fun h1=>?_) (fun h1=>?_)<;>rw [h1]<;>simp only [decide_eq_true_eq,decide_eq_false_iff_not] at h1
  ·conv=>whnf
   refine C3 (fun h2=>?_) (fun h2=>?_)<;>rw [h2]<;>simp only [decide_eq_true_eq,decide_eq_false_iff_not] at h2
   ·have hi':i<min l.length 6:=by omega
    have hK:=A4K l i
    unfold A4J at hK
    have hm:=E5 (gI l (i:Int).toNat) (n:=5) (by decide)
    have hw:IntKind.i64.wrap (1+C5 (gI l (i:Int).toNat) 5)=1+C5 (gI l i) 5:=A9 (by omega) (by omega)
    conv=>whnf
    refine ⟨rfl,⟨by omega,by omega⟩,?_⟩;conv=>whnf
    refine A7 (A0y _ 5 (by decide) (by decide) _) ?_;conv=>whnf
    rw [hw]
    generalize hkk:1+C5 (gI l i) 5=k at hK
    have hcases:(sv=.emp∧P1 l i=[])∨∃ b g,sv=.own 1 b 0 (P1 l i).length∧s b=some ⟨3,1,(P1 l i).length,g⟩∧∀ j,j<(P1 l i).length→g j=eI (gI (P1 l i) j):=by
     rcases hc with ⟨h0,h3,_⟩ | ⟨_,b,g,_,h3,h4,h5⟩
     ·exact .inl ⟨h3,List.eq_nil_of_length_eq_zero h0⟩
     ·exact .inr ⟨b,g,h3,by rw [h4];exact A0 ..,h5⟩
    refine lp (P1 l i).length [0,3,4,5,6,7] (fun j vs t=>vs=[A6 l,sv,eI i,eI k,eB (((P1 l i).take j).any fun y=>y==k),eI j]∧t=s) ?_ ?_
    ·conv=>whnf
     exact ⟨rfl,rfl⟩
    ·rintro j vs t hj ⟨rfl,rfl⟩
     rcases hcases with ⟨rfl,hnil⟩ | ⟨b,g,rfl,hb,hg⟩
     ·have hj0:j=0:=by rw [hnil] at hj;exact Nat.le_zero.1 hj
      subst hj0
      have hK2:P1 l (i+1)=P1 l i++[k]:=by rw [hK,if_neg (by rw [hnil];simp)]
      conv=>whnf
      refine F2.app (q:=r3) rfl rfl rfl rfl rfl (by rfl) (by show ((P1 l i).length+1) * 8≤140737488355328;omega) hc (fun sv' t' hc'=>?_);conv=>whnf
      refine ⟨rfl,?_⟩;conv=>whnf
      exact nx hi' ⟨sv',by rw [B9 (by omega)],by rw [hK2];exact hc'⟩
     ·conv=>whnf
      cases h3:decide ((j:Int)<((P1 l i).length:Int))
      ·obtain rfl:=C6 h3 hj
       conv=>whnf
       rw [List.take_length]
       cases h4:(P1 l i).any fun y=>y==k
       ·rw [if_neg (by rw [h4];simp)] at hK;conv=>whnf
        refine F2.app (q:=r3) rfl rfl rfl rfl rfl (by rfl) (by show ((P1 l i).length+1) * 8≤140737488355328;omega) hc (fun sv' t' hc'=>?_);conv=>whnf
        refine ⟨rfl,?_⟩;conv=>whnf
        exact nx hi' ⟨sv',by rw [B9 (by omega)],by rw [hK];exact hc'⟩
       ·rw [if_pos h4] at hK;conv=>whnf
        refine ⟨rfl,?_⟩;conv=>whnf
        exact nx hi' ⟨_,by rw [B9 (by omega)],by rw [hK];exact hc⟩
      ·have hj':=E4 h3
       have hsucc:=B0M (P1 l i) k j hj'
       conv=>whnf
       cases h4:((P1 l i).take j).any fun y=>y==k
       ·rw [h4,Bool.false_or] at hsucc;conv=>whnf
        refine ⟨rfl,⟨by omega,by omega⟩,?_⟩;conv=>whnf
        refine D9 hb rfl (by omega) (v:=eI (gI (P1 l i) (j:Int).toNat)) (by rw [Nat.zero_add];exact hg _ (by omega)) ?_;conv=>whnf
        refine ⟨rfl,?_⟩;conv=>whnf
        refine nx hj' ⟨?_,rfl⟩
        rw [B9 (by omega),hsucc];rfl
       ·rw [h4,Bool.true_or] at hsucc;conv=>whnf
        refine ⟨rfl,?_⟩;conv=>whnf
        refine nx hj' ⟨?_,rfl⟩
        rw [B9 (by omega),hsucc]
   ·conv=>whnf
    exact hfin (by omega)
  ·conv=>whnf
   exact hfin (by omega)
def A9W (x:A0a) (least:Int):A0a:=⟨least,C5 x.rate 4000,1+C5 x.amount 300⟩
def O8 (l:List A0a) (step:Int):Nat→List A0a×Int
 | 0=>([],0)
 | i+1=>((O8 l step i).1++[A9W (l.getD i default) ((O8 l step i).2+C5 (l.getD i default).least step)],(O8 l step i).2+C5 (l.getD i default).least step+1)
theorem A6x (l:List A0a) (step:Int) (i:Nat):(O8 l step i).1.length=i:=by
 induction i with
 | zero=>rfl
 | succ i ih=>show (_++[_]).length=_;rw [List.length_append,ih];rfl
theorem A7u (l:List A0a) {step:Int} (h:0<step) (i:Nat):0≤(O8 l step i).2∧(O8 l step i).2≤i * step:=by
 induction i with
 | zero=>exact ⟨Int.le_refl _,by show (0:Int)≤((0:Nat):Int) * step;rw [Int.natCast_zero,Int.zero_mul];omega⟩
 | succ i ih =>
  have hm:=E5 (l.getD i default).least h
  show 0≤(O8 l step i).2+C5 (l.getD i default).least step+1∧(O8 l step i).2+C5 (l.getD i default).least step+1≤_
  rw [show ((i+1:Nat):Int) * step=i * step+step by rw [Int.natCast_add,Int.add_mul];simp]
  omega
def O2 (l:List A0a) (step:Int):List A0a:=if l.length=0 then [⟨Int.tdiv step 2,1000,0⟩] else (O8 l step (min l.length 3)).1
theorem A8r (l:List A0a) (step:Int) (h0:0<step) (h1:step≤5000) (st:St):S P 237 [B2 3 P7 l,eI step] st fun v st'=>v=B2 3 P7 (O2 l step)∧st'=st:=by
 refine A0Z (ty:=257) ?_
 refine A8 [] B8 mixed Tryz.func237 (by rfl) rfl rfl rfl ?_;conv=>whnf
 refine lp (min l.length 3) [0,1,5,6,7] (fun i vs s=>∃ sv,vs=[B2 3 P7 l,eI step,sv,eI (O8 l step i).2,eI i]∧F2 257 3 P7 (O8 l step i).1 st sv s) ?_ ?_
 ·conv=>whnf
  exact ⟨.emp,rfl,F2.start _ _ _ _⟩
 ·rintro i vs s hi ⟨sv,rfl,hc⟩
  have hlen:=A6x l step i
  have hle:=A7u l h0 i
  have hip:(i:Int) * step≤3 * 5000:=Int.mul_le_mul (by omega) h1 (by omega) (by omega)
  have hsv:(i=0∧sv=.emp)∨(0<i∧∃ b,sv=.own 3 b 0 i):=by
   rcases hc with ⟨h2,h3,_⟩ | ⟨h2,b,_,_,h3,_⟩
   ·exact .inl ⟨by omega,h3⟩
   ·exact .inr ⟨by omega,b,by rw [h3,hlen]⟩
  have hw2:IntKind.i64.wrap (Int.tdiv step 2)=Int.tdiv step 2:=by
   rw [Int.tdiv_eq_ediv_of_nonneg (by omega)]
   exact A9 (by omega) (by omega)
  conv=>whnf
  refine C3 (fun h2=>?_) (fun h2=>?_)<;>rw [h2]<;>simp only [decide_eq_true_eq,decide_eq_false_iff_not] at h2
  case' refine_1 =>
   conv=>whnf
   refine C3 (fun h3=>?_) (fun h3=>?_)<;>rw [h3]<;>simp only [decide_eq_true_eq,decide_eq_false_iff_not] at h3
  case refine_1.refine_1 =>
   have hi':i<min l.length 3:=by omega
   have hm:=E5 (l.getD (i:Int).toNat default).least h0
   have hm2:=E5 (l.getD (i:Int).toNat default).amount (n:=300) (by decide)
   have e1:IntKind.i64.wrap ((O8 l step i).2+C5 (l.getD (i:Int).toNat default).least step)=(O8 l step i).2+C5 (l.getD (i:Int).toNat default).least step:=A9 (by omega) (by omega)
   have e2:IntKind.i64.wrap (1+C5 (l.getD (i:Int).toNat default).amount 300)=1+C5 (l.getD (i:Int).toNat default).amount 300:=A9 (by omega) (by omega)
   have e3:IntKind.i64.wrap ((O8 l step i).2+C5 (l.getD (i:Int).toNat default).least step+1)=(O8 l step i).2+C5 (l.getD (i:Int).toNat default).least step+1:=A9 (by omega) (by omega)
   conv=>whnf
   refine ⟨rfl,⟨by omega,by omega⟩,?_⟩;conv=>whnf
   refine A7 (N7 _ step h0 (by omega) _) ?_;conv=>whnf
   rw [e1]
   refine ⟨[16,17],[],List.range 19,by kernel_rfl,?_⟩;conv=>whnf
   refine ⟨rfl,⟨by omega,by omega⟩,?_⟩;conv=>whnf
   refine ⟨_,D1 (N7 _ 4000 (by decide) (by decide) _),?_⟩;conv=>whnf
   refine ⟨rfl,⟨by omega,by omega⟩,?_⟩;conv=>whnf
   refine ⟨_,D1 (N7 _ 300 (by decide) (by decide) _),?_⟩;conv=>whnf
   rw [e2]
   refine F2.app (y:=A9W (l.getD (i:Int).toNat default) ((O8 l step i).2+C5 (l.getD (i:Int).toNat default).least step)) (q:=C3e) rfl rfl rfl rfl rfl (by rfl) (by show ((O8 l step i).1.length+1) * 24≤140737488355328;omega) hc (fun sv' t' hc'=>?_);conv=>whnf
   rw [e3]
   refine ⟨rfl,?_⟩;conv=>whnf
   exact nx hi' ⟨sv',by rw [B9 (by omega)];rfl,hc'⟩
  all_goals
   have hie:i=min l.length 3:=by omega
   conv=>whnf
   rcases hsv with ⟨rfl,rfl⟩ | ⟨hp,b,rfl⟩
   ·have hl0:l.length=0:=by omega
    have hT:O2 l step=[⟨Int.tdiv step 2,1000,0⟩]:=by unfold O2;rw [if_pos hl0]
    rw [hT];conv=>whnf
    refine F2.app (y:=⟨Int.tdiv step 2,1000,0⟩) (q:=C3e) rfl rfl rfl rfl rfl (by show AV.agg [eI (IntKind.i64.wrap (Int.tdiv step 2)),eI 1000,eI 0]=_;rw [hw2];rfl) (by show (0+1) * 24≤140737488355328;omega) hc (fun sv' t' hc'=>?_);conv=>whnf
    exact hc'
   ·have hT:O2 l step=(O8 l step i).1:=by unfold O2;rw [if_neg (by omega),hie]
    rw [hT];conv=>whnf
    rw [show ((i:Int)==0)=false by rw [beq_eq_false_iff_ne];omega];conv=>whnf
    exact hc
theorem B4D (l:List D6) (most:Nat) (kinds:Int) (name:Int→D6) (k:Nat):∃ ks:List Nat,Q1 l most kinds name k=ks.map (fun x:Nat=>name x)∧ks.Pairwise (·<·)∧(∀ x∈ks,x<k)∧ks.length≤most:=by
 induction k with
 | zero=>exact ⟨[],rfl,.nil,⟨fun x hx=>absurd hx List.not_mem_nil,Nat.zero_le _⟩⟩
 | succ k ih =>
  obtain ⟨ks,h1,h2,h3,h4⟩:=ih
  rw [A5d];unfold A5c
  split
  ·rename_i hc
   rw [Bool.and_eq_true,decide_eq_true_eq,h1,List.length_map] at hc
   refine ⟨ks++[k],by rw [h1,List.map_append];rfl,List.pairwise_append.2 ⟨h2,List.pairwise_singleton _ _,fun a ha b hb=>by rw [List.mem_singleton] at hb;subst hb;exact h3 a ha⟩,fun x hx=>?_,by rw [List.length_append];show ks.length+1≤most;omega⟩
   rcases List.mem_append.1 hx with h | h
   ·have:=h3 x h;omega
   ·rw [List.mem_singleton] at h;omega
  ·exact ⟨ks,h1,h2,fun x hx=>by have:=h3 x hx;omega,h4⟩
theorem A6m {l:List D6} {most:Nat} {kinds:Int} {name:Int→D6} {k:Nat} (hn:∀ x:Nat,x<k→F8 (name x)=true) (hr:∀ x y:Nat,x<y→y<k→slt (name x) (name y)=true):Z7 (Q1 l most kinds name k)=true∧(Q1 l most kinds name k).length≤most∧∀ s∈Q1 l most kinds name k,s.size≤12:=by
 obtain ⟨ks,h1,h2,h3,h4⟩:=B4D l most kinds name k
 rw [h1]
 have hall:∀ s∈ks.map (fun x:Nat=>name x),F8 s=true:=fun s hs=>by
  obtain ⟨x,hx,rfl⟩:=List.mem_map.1 hs;exact hn x (h3 x hx)
 refine ⟨?_,by rw [List.length_map];exact h4,fun s hs=>?_⟩
 ·unfold Z7
  rw [Bool.and_eq_true,Bool.not_eq_true',List.any_eq_false]
  refine ⟨?_,fun s hs=>by rw [hall s hs];simp⟩
  unfold X8
  rw [List.all_eq_true]
  intro j hj
  have hj:=List.mem_range.1 hj
  rw [List.length_map] at hj
  unfold N5
  rw [Bool.or_eq_true,beq_iff_eq]
  by_cases e:j=0
  ·exact .inl e
  ·refine .inr ?_
   have g:∀ i,i<ks.length→(ks.map (fun x:Nat=>name x)).getD i default=name (ks.getD i 0:Nat):=fun i hi=>by
    rw [List.getD_eq_getElem?_getD,List.getElem?_map,List.getElem?_eq_getElem hi,List.getD_eq_getElem?_getD,List.getElem?_eq_getElem hi];rfl
   rw [g _ (by omega),g _ hj]
   have gm:∀ i,i<ks.length→ks.getD i 0=ks[i]!:=fun i hi=>by rw [List.getD_eq_getElem?_getD,List.getElem?_eq_getElem hi,getElem!_pos ks i hi];rfl
   refine hr _ _ ?_ (h3 _ ?_)
   ·rw [gm _ (by omega),gm _ hj,getElem!_pos ks _ (by omega),getElem!_pos ks _ hj]
    exact List.pairwise_iff_getElem.1 h2 _ _ (by omega) hj (by omega)
   ·rw [gm _ hj,getElem!_pos ks _ hj];exact List.getElem_mem _
 ·have:=hall s hs
  unfold F8 at this
  simp only [Bool.and_eq_true,decide_eq_true_eq] at this
  exact this.1.2
theorem B8I:((List.range 8).all fun x=>F8 (A0W (x:Nat)))=true:=by kernel_rfl
theorem C1i:((List.range 8).all fun y=>(List.range y).all fun x=>slt (A0W (x:Nat)) (A0W (y:Nat)))=true:=by kernel_rfl
theorem B7F:((List.range 3).all fun x=>F8 (A4r (x:Nat)))=true:=by kernel_rfl
theorem B9J:((List.range 3).all fun y=>(List.range y).all fun x=>slt (A4r (x:Nat)) (A4r (y:Nat)))=true:=by kernel_rfl
theorem B5b:((List.range 3).all fun x=>F8 (A4h (x:Nat)))=true:=by kernel_rfl
theorem B7L:((List.range 3).all fun y=>(List.range y).all fun x=>slt (A4h (x:Nat)) (A4h (y:Nat)))=true:=by kernel_rfl
theorem B2K {name:Int→D6} {k:Nat} (h:((List.range k).all fun y=>(List.range y).all fun x=>slt (name (x:Nat)) (name (y:Nat)))=true) (x y:Nat) (hxy:x<y) (hy:y<k):slt (name x) (name y)=true :=
 List.all_eq_true.1 (List.all_eq_true.1 h y (List.mem_range.2 hy)) x (List.mem_range.2 hxy)
theorem B2r {name:Int→D6} {k:Nat} (h:((List.range k).all fun x=>F8 (name (x:Nat)))=true) (x:Nat) (hx:x<k):F8 (name x)=true:=List.all_eq_true.1 h x (List.mem_range.2 hx)
theorem A1S (s:S6):A0r (O7 s)=true∧A1p (O7 s):=by
 obtain ⟨a1,a2,a3⟩:=A6m (l:=s.skus) (most:=3) (kinds:=8) (name:=A0W) (k:=8) (B2r B8I) (B2K C1i)
 obtain ⟨b1,b2,b3⟩:=A6m (l:=s.cats) (most:=2) (kinds:=3) (name:=A4r) (k:=3) (B2r B7F) (B2K B9J)
 unfold O7
 generalize Q1 s.skus 3 8 A0W 8=A at a1 a2 a3 ⊢
 generalize Q1 s.cats 2 3 A4r 3=B at b1 b2 b3 ⊢
 refine ⟨?_,?_⟩
 ·unfold A0r
  rw [a1,b1,decide_eq_true (show A.length≤20 by omega),decide_eq_true (show B.length≤20 by omega)];rfl
 ·exact ⟨by show A.length≤_;omega,by show B.length≤_;omega,fun x hx=>by have:=a3 x hx;show x.size≤_;omega,fun x hx=>by have:=b3 x hx;show x.size≤_;omega⟩
theorem B2A (l:List D6):A0J (A0z l)=true∧(A0z l).length≤3∧∀ s∈A0z l,s.size≤12:=by
 obtain ⟨a1,a2,a3⟩:=A6m (l:=l) (most:=3) (kinds:=3) (name:=A4h) (k:=3) (B2r B5b) (B2K B7L)
 unfold A0z
 generalize Q1 l 3 3 A4h 3=A at a1 a2 a3 ⊢
 refine ⟨?_,a2,a3⟩
 unfold Z7 at a1
 rw [Bool.and_eq_true] at a1
 unfold A0J
 rw [a1.1,a1.2,decide_eq_true (by omega)];rfl
theorem C5V (n:Int):C5 n 8=0∨C5 n 8=1∨C5 n 8=2∨C5 n 8=3∨C5 n 8=4∨C5 n 8=5∨C5 n 8=6∨C5 n 8=7:=by
 have:=E5 n (n:=8) (by decide);omega
theorem C1g (k:Nat) (h:k<8):A0W k=U8 (97+k):=by
 unfold A0W C5;congr 2;omega
theorem B1H (l:List Ab.Item):(O0 l).map Ab.Item.sku=[U8 97,U8 98,U8 99,U8 100,U8 101,U8 102,U8 103,U8 104]:=by
 unfold O0
 rw [List.map_map]
 have e:∀ k,k<8→(Ab.Item.sku ∘ O5 l) k=U8 (97+(k:Int)):=fun k hk=>by
  rw [←C1g k hk]
  show (O5 l k).sku=_
  unfold O5;split<;>rfl
 have:(List.range 8).map (Ab.Item.sku ∘ O5 l)=(List.range 8).map fun k:Nat=>U8 (97+(k:Int)):=List.map_congr_left fun k hk=>e k (List.mem_range.1 hk)
 rw [this];rfl
theorem A2T (l:List Ab.Item):(O0 l).length=8:=by unfold O0;rw [List.length_map,List.length_range]
theorem B7Z (items:List Ab.Item) (s:D6):known items s=(items.map Ab.Item.sku).any fun y=>y.toList==s.toList:=by
 unfold known S8
 rw [A1r,List.any_map];rfl
theorem A9B (l:List Ab.Item) (n:Int):known (O0 l) (A0W n)=true:=by
 rw [B7Z,B1H]
 unfold A0W
 rcases C5V n with h | h | h | h | h | h | h | h<;>rw [h]<;>kernel_rfl
theorem B4a (x:G4):(0≤(A0R x).qty∧(A0R x).qty≤9)∧0≤(A0R x).price∧(A0R x).price<4000:=by
 have h1:=E5 x.qty (n:=10) (by decide)
 have h2:=E5 x.price (n:=4000) (by decide)
 exact ⟨⟨h1.1,by show C5 x.qty 10≤9;omega⟩,h2.1,h2.2⟩
structure A2Z (l:List G4):Prop where
 len:l.length≤8
 line:∀ x∈l,(0≤x.qty∧x.qty≤9)∧0≤x.price∧x.price<4000
 sku:∀ x∈l,∃ n,x.sku=A0W n
theorem B2C (l:List G4):A2Z (V9 l):=by
 unfold V9
 refine ⟨by rw [List.length_map,List.length_take];omega,fun x hx=>?_,fun x hx=>?_⟩
 ·obtain ⟨y,_,rfl⟩:=List.mem_map.1 hx;exact B4a y
 ·obtain ⟨y,_,rfl⟩:=List.mem_map.1 hx;exact ⟨A2H y.sku,rfl⟩
theorem A2Z.lineC {l:List G4} (h:A2Z l) {x:G4} (hx:x∈l):lineC x=true:=by
 have:=h.line x hx
 rw [Y5];omega
theorem B7l {l:List G4} (h1:∀ x∈l,(0≤x.qty∧x.qty≤9)∧0≤x.price∧x.price<4000):(0≤K7 l∧K7 l≤9 * l.length)∧0≤J6 l∧J6 l≤36000 * l.length:=by
 have:∀ (l:List G4) (a b:Int),(∀ x∈l,(0≤x.qty∧x.qty≤9)∧0≤x.price∧x.price<4000)→(a≤l.foldl (fun s x=>s+x.qty) a∧l.foldl (fun s x=>s+x.qty) a≤a+9 * l.length)∧b≤l.foldl (fun s x=>s+x.qty * x.price) b∧l.foldl (fun s x=>s+x.qty * x.price) b≤b+36000 * l.length:=by
  intro l
  induction l with
  | nil=>intro a b _;simp
  | cons y l ih =>
   intro a b h
   have hy:=h y (List.mem_cons_self ..)
   have h0:0≤y.qty * y.price:=Int.mul_nonneg hy.1.1 hy.2.1
   have h9:y.qty * y.price≤9 * 4000:=Int.mul_le_mul hy.1.2 (by omega) hy.2.1 (by omega)
   have:=ih (a+y.qty) (b+y.qty * y.price) fun x hx=>h x (List.mem_cons_of_mem _ hx)
   rw [List.foldl_cons,List.foldl_cons,List.length_cons]
   omega
 have:=this l 0 0 h1
 unfold K7 J6;omega
theorem B5m {kn:D6→Bool} {l:List G4} (h:∀ x∈l,kn x.sku=true∧lineC x=true):l.find? (J0 kn)=none:=by
 rw [List.find?_eq_none]
 intro x hx
 unfold J0
 rw [(h x hx).1,(h x hx).2];simp
theorem A2Z.check {l:List G4} (h:A2Z l) {kn:D6→Bool} (hk:∀ n,kn (A0W n)=true):N3 kn l=0:=by
 unfold N3
 have hl:=h.len
 have hs:=B7l h.line
 rw [if_neg (by omega),B5m fun x hx=>⟨by obtain ⟨n,hn⟩:=h.sku x hx;rw [hn];exact hk n,h.lineC hx⟩]
 show (if _ then (5:Int) else 0)=0
 rw [if_neg]
 rw [decide_eq_false (by omega),decide_eq_false (by omega)];decide
def B5r (n:Int):D6:=(⟨#[103]⟩:D6)++U8 (48+C5 n 2)
def O9 (k:Int):D6:=(⟨#[122]⟩:D6)++U8 (48+k)
def V6 (x:A1t):A1t:=⟨O7 x.scope,1+C5 x.count 2⟩
def O1 (l:List A1t):List A1t:=if l.length=0 then [⟨⟨[],[]⟩,2⟩] else (l.take 3).map V6
def A2r (p:B4):Int:=1+C5 (IntKind.i64.wrap (p.kind - 1)) 7
def A1k (p:B4):D6:=if C5 (A2H p.group) 3=1 then B5r p.group.size else ⟨#[]⟩
def A2q (p:B4):D6:=if C5 (A2H p.code) 3=1 then A4h p.code.size else ⟨#[]⟩
def A2c (p:B4):Int:=if C5 p.least 3=1 then C5 p.least 9000 else 0
def N8 (p:B4) (id K:Int):B4 :=
 ⟨idN id,K,C5 p.prio 5,A1k p,A2q p,if K=7 then false else p.closes,if K=4∨K=7 then ⟨[],[]⟩ else O7 p.scope,A2c p,
 if K=1∨K=3∨K=7 then 1+C5 p.rate 10000 else 0,if K=2 then 1+C5 p.amount 900 else if K=4 then C5 p.amount 3000 else 0,
 if K=3 then 1+C5 p.buy 3 else 0,if K=3 then 1+C5 p.get 2 else 0,if K=4 then O1 p.parts else [],if K=5 then O2 p.tiers 5000 else if K=6 then O2 p.tiers 5 else []⟩
def A1l (p:B4) (id:Int):B4:=N8 p id (A2r p)
def B7W (i:Nat):Int:=((i:Int) * 7+3) % 10
def U1 (l:List B4) (i:Nat):B4:=A1l (l.getD i default) (B7W i)
def L5 (l:List B4):List B4:=(List.range (min l.length 6)).map (U1 l)
def A7f (l:List G8) (c:Nat):G8:=⟨A4r c,C5 (l.getD c default).rate 3000⟩
def Q6 (l:List G8):List G8:=(List.range (min 3 l.length)).map (A7f l)
def E0 (l:List K3) (k:Nat):K3 :=
 if k<l.length then ⟨O9 k,Q6 (l.getD k default).rates,C5 (l.getD k default).rest 3000,C5 (l.getD k default).ship 3000⟩ else ⟨O9 k,[],1000 * k,500 * k⟩
def K2 (t:Z9):Z9:=⟨t.incl,t.byOrder,C5 t.round 3,(List.range 3).map (E0 t.zones)⟩
def A9V (s:Ab.Ship):Ab.Ship:=⟨C5 s.fee 900,C5 s.free 3 * 4000⟩
def A6o (p:A4x):A4x:=⟨20+C5 p.window 60,C5 p.grace 40,1+C5 p.mode 3,C5 p.restock 3 * C5 p.restock 2500,N0 p.order,N0 p.credit⟩
def Z1 (r:I4):I4:=⟨O0 r.items,L5 r.promos,K2 r.tax,A9V r.ship,A6o r.policy⟩
theorem C5W (n:Int):C5 n 2=0∨C5 n 2=1:=by
 have:=E5 n (n:=2) (by decide);omega
theorem C3Y (n:Int):C5 n 3=0∨C5 n 3=1∨C5 n 3=2:=by
 have:=E5 n (n:=3) (by decide);omega
theorem C4L (n:Int):C5 n 10=0∨C5 n 10=1∨C5 n 10=2∨C5 n 10=3∨C5 n 10=4∨C5 n 10=5∨C5 n 10=6∨C5 n 10=7∨C5 n 10=8∨C5 n 10=9:=by
 have:=E5 n (n:=10) (by decide);omega
theorem le3 {n:Nat} (h:n≤3):n=0∨n=1∨n=2∨n=3:=by omega
theorem lt3 {n:Nat} (h:n<3):n=0∨n=1∨n=2:=by omega
theorem X3 {s:D6} (h:F8 s=true):s.size≤12:=by
 unfold F8 at h
 simp only [Bool.and_eq_true,decide_eq_true_eq] at h
 exact h.1.2
theorem B1G (n:Int):F8 (A0W n)=true:=by
 unfold A0W
 rcases C5V n with h | h | h | h | h | h | h | h<;>rw [h]<;>kernel_rfl
theorem A5u (n:Int):F8 (A4r n)=true:=by
 unfold A4r
 rcases C3Y n with h | h | h<;>rw [h]<;>kernel_rfl
theorem A9s (n:Int):F8 (A4h n)=true:=by
 unfold A4h
 rcases C3Y n with h | h | h<;>rw [h]<;>kernel_rfl
theorem A8m (n:Int):F8 (B5r n)=true:=by
 unfold B5r
 rcases C5W n with h | h<;>rw [h]<;>kernel_rfl
theorem B3D (n:Int):F8 (idN n)=true:=by
 unfold idN
 rcases C4L n with h | h | h | h | h | h | h | h | h | h<;>rw [h]<;>kernel_rfl
theorem B1u:A1H ⟨#[]⟩=true:=by kernel_rfl
theorem B3O {s:D6} (h:F8 s=true):A1H s=true:=by unfold A1H;rw [h,Bool.or_true]
theorem A8n (p:B4):A1H (A1k p)=true∧(A1k p).size≤12:=by
 unfold A1k;split
 ·exact ⟨B3O (A8m _),X3 (A8m _)⟩
 ·exact ⟨B1u,by decide⟩
theorem A9t (p:B4):A1H (A2q p)=true∧(A2q p).size≤12:=by
 unfold A2q;split
 ·exact ⟨B3O (A9s _),X3 (A9s _)⟩
 ·exact ⟨B1u,by decide⟩
theorem C0l (p:B4):0≤A2c p∧A2c p<9000:=by
 have:=E5 p.least (n:=9000) (by decide)
 unfold A2c;split<;>omega
theorem A4F:A0r ⟨[],[]⟩=true∧A1p ⟨[],[]⟩:=⟨by kernel_rfl,⟨by decide,by decide,fun x hx=>(by cases hx),fun x hx=>(by cases hx)⟩⟩
theorem A3V (l:List A1t):(1≤(O1 l).length∧(O1 l).length≤3)∧∀ x∈O1 l,A0e x=true∧A1p x.scope:=by
 unfold O1
 split
 ·refine ⟨⟨Nat.le_refl _,by show 1≤3;decide⟩,fun x hx=>?_⟩
  rw [List.mem_singleton.1 hx]
  exact ⟨by kernel_rfl,A4F.2⟩
 ·rename_i h
  refine ⟨by rw [List.length_map,List.length_take];omega,fun x hx=>?_⟩
  obtain ⟨y,_,rfl⟩:=List.mem_map.1 hx
  obtain ⟨h1,h2⟩:=A1S y.scope
  have:=E5 y.count (n:=2) (by decide)
  refine ⟨?_,h2⟩
  unfold A0e
  rw [show (V6 y).scope=O7 y.scope from rfl,h1,show (V6 y).count=1+C5 y.count 2 from rfl,decide_eq_false (by omega),decide_eq_false (by omega)];rfl
theorem B0y (l:List A0a) (step:Int) (i k:Nat) (hk:k<i):(O8 l step i).1.getD k default=A9W (l.getD k default) ((O8 l step k).2+C5 (l.getD k default).least step):=by
 induction i with
 | zero=>omega
 | succ i ih =>
  have hl:=A6x l step i
  show ((O8 l step i).1++[_]).getD k default=_
  by_cases e:k=i
  ·subst e
   rw [List.getD_eq_getElem?_getD,List.getElem?_append_right (by omega),hl,Nat.sub_self];rfl
  ·rw [List.getD_eq_getElem?_getD,List.getElem?_append_left (by omega),←List.getD_eq_getElem?_getD]
   exact ih (by omega)
theorem A1T (l:List A0a) (step:Int) (h:step=5000∨step=5):W5 (O2 l step)=true∧(O2 l step).length≤3:=by
 unfold O2
 split
 ·rcases h with rfl | rfl
  ·exact ⟨by kernel_rfl,by show 1≤3;decide⟩
  ·exact ⟨by kernel_rfl,by show 1≤3;decide⟩
 ·rename_i h0
  have hs:0<step∧step≤5000:=by omega
  have hl:=A6x l step (min l.length 3)
  refine ⟨?_,by omega⟩
  unfold W5
  rw [hl,decide_eq_false (by omega),decide_eq_false (by omega)]
  show K8 _ _=true
  refine L1 fun k hk=>?_
  rw [hl] at hk
  have hg:=B0y l step (min l.length 3) k hk
  have hm:=E5 (l.getD k default).least hs.1
  have hr:=E5 (l.getD k default).rate (n:=4000) (by decide)
  have ha:=E5 (l.getD k default).amount (n:=300) (by decide)
  have hlo:=A7u l hs.1 k
  have hip:(k:Int) * step≤3 * 5000:=Int.mul_le_mul (by omega) hs.2 (by omega) (by omega)
  unfold A2X
  rw [hg]
  have hprev:(if k=0 then -1 else ((O8 l step (min l.length 3)).1.getD (k - 1) default).least)<(O8 l step k).2+C5 (l.getD k default).least step:=by
   by_cases e:k=0
   ·rw [if_pos e];omega
   ·rw [if_neg e,B0y l step (min l.length 3) (k - 1) (by omega)]
    obtain ⟨j,rfl⟩:∃ j,k=j+1:=⟨k - 1,by omega⟩
    rw [Nat.add_sub_cancel]
    show (O8 l step j).2+C5 (l.getD j default).least step<(O8 l step j).2+C5 (l.getD j default).least step+1+C5 (l.getD (j+1) default).least step
    omega
  show (!(decide ((O8 l step k).2+C5 (l.getD k default).least step≤_)||decide ((O8 l step k).2+C5 (l.getD k default).least step>10000000000000)||decide (C5 (l.getD k default).rate 4000<0)||decide (C5 (l.getD k default).rate 4000>10000)||decide (1+C5 (l.getD k default).amount 300<0)||decide (1+C5 (l.getD k default).amount 300>10000000000000)||(C5 (l.getD k default).rate 4000==0&&1+C5 (l.getD k default).amount 300==0)))=true
  rw [decide_eq_false (by omega),decide_eq_false (by omega),decide_eq_false (by omega),decide_eq_false (by omega),decide_eq_false (by omega),decide_eq_false (by omega),show (1+C5 (l.getD k default).amount 300==0)=false from by rw [beq_eq_false_iff_ne];omega,Bool.and_false];rfl
theorem B7Y (l:List Int) (n:Nat):(∀ x∈P1 l n,1≤x∧x≤5)∧(P1 l n).Nodup:=by
 induction n with
 | zero=>exact ⟨fun x hx=>absurd hx List.not_mem_nil,List.nodup_nil⟩
 | succ n ih =>
  rw [A4K];unfold A4J
  split
  ·exact ih
  ·rename_i h
   have hm:=E5 (gI l n) (n:=5) (by decide)
   have hno:1+C5 (gI l n) 5∉P1 l n:=fun hx=>h (List.any_eq_true.2 ⟨_,hx,beq_self_eq_true _⟩)
   refine ⟨fun x hx=>?_,List.nodup_append.2 ⟨ih.2,List.nodup_cons.2 ⟨List.not_mem_nil,List.nodup_nil⟩,fun a ha b hb=>?_⟩⟩
   ·rcases List.mem_append.1 hx with h' | h'
    ·exact ih.1 x h'
    ·rw [List.mem_singleton.1 h'];omega
   ·rw [List.mem_singleton.1 hb];intro e;exact hno (e▸ha)
theorem B3I {l:List Int} (h1:∀ x∈l,1≤x∧x≤5) (h2:l.Nodup):A1i l=true:=by
 refine L1 fun k hk=>?_
 have hx:=h1 _ (B3 hk)
 unfold A1G
 rw [show R4 1 9 (l.getD k default)=true from J2.2 (by omega)]
 have:((l.take k).any fun y=>l.getD k default==y)=false:=by
  rw [List.any_eq_false]
  intro y hy
  obtain ⟨j,hj,rfl⟩:=List.getElem_of_mem hy
  rw [List.length_take] at hj
  rw [beq_iff_eq,List.getD_eq_getElem?_getD,List.getElem?_eq_getElem hk,Option.getD_some,List.getElem_take]
  intro e
  have:=(List.nodup_iff_pairwise_ne.1 h2)
  exact absurd e.symm (List.pairwise_iff_getElem.1 this j k (by omega) hk (by omega))
 rw [this];rfl
theorem Z0 (l:List Int):A1i (N0 l)=true∧(N0 l).length≤6:=by
 have h:=B7Y l (min l.length 6)
 have:=A9A l (min l.length 6)
 exact ⟨B3I h.1 h.2,by show (P1 l _).length≤6;omega⟩
theorem A1m (q:B4) (h1:1≤q.kind∧q.kind<8) (hh:A5V q=true) (hp:A7S q=true) (hk:A5W q=true):I9 q=true:=by
 unfold I9;rw [decide_eq_true (show q.kind≥1 from h1.1),decide_eq_true h1.2,hh,hp,hk];rfl
theorem A2p (q:B4) (h1:F8 q.id=true) (h2:0≤q.prio∧q.prio≤1000) (h3:A1H q.group=true) (h4:A1H q.code=true) (h5:A0r q.scope=true) (h6:0≤q.least∧q.least≤10000000000000):A5V q=true:=by
 unfold A5V;rw [h1,J2.2 h2,h3,h4,h5,J2.2 h6];rfl
theorem A4V (p:B4):1≤A2r p∧A2r p≤7:=by
 have:=E5 (IntKind.i64.wrap (p.kind - 1)) (n:=7) (by decide)
 unfold A2r;omega
theorem A7V (p:B4) (id K:Int) (hK:1≤K∧K≤7):I9 (N8 p id K)=true:=by
 have h1:=B3D id
 have h2:=E5 p.prio (n:=5) (by decide)
 have h3:=(A8n p).1
 have h4:=(A9t p).1
 have h5:=(A1S p.scope).1
 have h6:=C0l p
 have r:=E5 p.rate (n:=10000) (by decide)
 have a9:=E5 p.amount (n:=900) (by decide)
 have a3:=E5 p.amount (n:=3000) (by decide)
 have b3:=E5 p.buy (n:=3) (by decide)
 have g2:=E5 p.get (n:=2) (by decide)
 have hpt:=A3V p.parts
 have ht5:=(A1T p.tiers 5000 (.inl rfl)).1
 have ht6:=(A1T p.tiers 5 (.inr rfl)).1
 unfold N8
 generalize idN id=I at h1 ⊢
 generalize C5 p.prio 5=pr at h2 ⊢
 generalize A1k p=G at h3 ⊢
 generalize A2q p=C at h4 ⊢
 generalize O7 p.scope=S at h5 ⊢
 generalize A2c p=L at h6 ⊢
 generalize C5 p.rate 10000=R at r ⊢
 generalize C5 p.amount 900=A at a9 ⊢
 generalize C5 p.amount 3000=A3 at a3 ⊢
 generalize C5 p.buy 3=B at b3 ⊢
 generalize C5 p.get 2=Gt at g2 ⊢
 generalize O1 p.parts=PT at hpt ⊢
 generalize O2 p.tiers 5000=T5 at ht5 ⊢
 generalize O2 p.tiers 5=T6 at ht6 ⊢
 generalize p.closes=cl
 rcases (by omega:K=1∨K=2∨K=3∨K=4∨K=5∨K=6∨K=7) with rfl | rfl | rfl | rfl | rfl | rfl | rfl
 ·exact A1m ⟨I,1,pr,G,C,cl,S,L,1+R,0,0,0,[],[]⟩ ⟨(by decide:(1:Int)≤1),(by decide:(1:Int)<8)⟩ (A2p _ h1 ⟨h2.1,by show pr≤1000;omega⟩ h3 h4 h5 ⟨h6.1,by show L≤_;omega⟩) rfl (show R4 1 10000 (1+R)=true from J2.2 (by omega))
 ·exact A1m ⟨I,2,pr,G,C,cl,S,L,0,1+A,0,0,[],[]⟩ ⟨(by decide:(1:Int)≤2),(by decide:(2:Int)<8)⟩ (A2p _ h1 ⟨h2.1,by show pr≤1000;omega⟩ h3 h4 h5 ⟨h6.1,by show L≤_;omega⟩) rfl (show R4 1 1000000000 (1+A)=true from J2.2 (by omega))
 ·refine A1m ⟨I,3,pr,G,C,cl,S,L,1+R,0,1+B,1+Gt,[],[]⟩ ⟨(by decide:(1:Int)≤3),(by decide:(3:Int)<8)⟩ (A2p _ h1 ⟨h2.1,by show pr≤1000;omega⟩ h3 h4 h5 ⟨h6.1,by show L≤_;omega⟩) rfl ?_
  show (R4 1 10000 (1+R)&&(R4 1 100 (1+B)&&R4 1 100 (1+Gt)))=true
  rw [J2.2 (show 1≤1+R∧1+R≤10000 by omega),J2.2 (show 1≤1+B∧1+B≤100 by omega),J2.2 (show 1≤1+Gt∧1+Gt≤100 by omega)];rfl
 ·refine A1m ⟨I,4,pr,G,C,cl,⟨[],[]⟩,L,0,A3,0,0,PT,[]⟩ ⟨(by decide:(1:Int)≤4),(by decide:(4:Int)<8)⟩ (A2p _ h1 ⟨h2.1,by show pr≤1000;omega⟩ h3 h4 A4F.1 ⟨h6.1,by show L≤_;omega⟩) rfl ?_
  show (!(decide ((PT.length:Int)<1)||decide ((PT.length:Int)>3)||decide (A3<0)||decide (A3>10000000000000))&&!(PT.any fun x=>!A0e x))=true
  rw [decide_eq_false (by omega),decide_eq_false (by omega),decide_eq_false (by omega),decide_eq_false (by omega),show (PT.any fun x=>!A0e x)=false from by
   rw [List.any_eq_false];intro x hx;rw [(hpt.2 x hx).1];simp];rfl
 ·exact A1m ⟨I,5,pr,G,C,cl,S,L,0,0,0,0,[],T5⟩ ⟨(by decide:(1:Int)≤5),(by decide:(5:Int)<8)⟩ (A2p _ h1 ⟨h2.1,by show pr≤1000;omega⟩ h3 h4 h5 ⟨h6.1,by show L≤_;omega⟩) rfl ht5
 ·exact A1m ⟨I,6,pr,G,C,cl,S,L,0,0,0,0,[],T6⟩ ⟨(by decide:(1:Int)≤6),(by decide:(6:Int)<8)⟩ (A2p _ h1 ⟨h2.1,by show pr≤1000;omega⟩ h3 h4 h5 ⟨h6.1,by show L≤_;omega⟩) rfl ht6
 ·exact A1m ⟨I,7,pr,G,C,false,⟨[],[]⟩,L,1+R,0,0,0,[],[]⟩ ⟨(by decide:(1:Int)≤7),(by decide:(7:Int)<8)⟩ (A2p _ h1 ⟨h2.1,by show pr≤1000;omega⟩ h3 h4 A4F.1 ⟨h6.1,by show L≤_;omega⟩) rfl (show R4 1 10000 (1+R)=true from J2.2 (by omega))
theorem A1p.fit {s:S6} (h:A1p s):A6E s:=⟨by have:=h.n1;show _≤9223372036854775807;omega,by have:=h.n2;show _≤9223372036854775807;omega⟩
theorem A9U (p:B4) (id K:Int):P0 (N8 p id K):=by
 have hs:=(A1S p.scope).2
 have hp:=A3V p.parts
 refine ⟨?_,?_,?_⟩
 ·show A6E (if K=4∨K=7 then ⟨[],[]⟩ else O7 p.scope)
  split
  ·exact A4F.2.fit
  ·exact hs.fit
 ·show (if K=4 then O1 p.parts else []).length≤9223372036854775807
  split
  ·omega
  ·exact Nat.zero_le _
 ·show ∀ x∈(if K=4 then O1 p.parts else []),_
  split
  ·exact fun x hx=>⟨(hp.2 x hx).2.fit.skus,(hp.2 x hx).2.fit.cats⟩
  ·exact fun x hx=>absurd hx List.not_mem_nil
theorem A0S (l:List B4):(L5 l).length=min l.length 6:=by unfold L5;rw [List.length_map,List.length_range]
theorem A4W {l:List B4} {k:Nat} (hk:k<(L5 l).length):(L5 l).getD k default=U1 l k:=by
 rw [A0S] at hk
 unfold L5
 rw [List.getD_eq_getElem?_getD,List.getElem?_map,List.getElem?_range hk];rfl
theorem A4X {l:List B4} {p:B4} (h:p∈L5 l):∃ (q:B4) (id K:Int),(1≤K∧K≤7)∧p=N8 q id K:=by
 obtain ⟨k,hk,rfl⟩:=List.mem_map.1 h
 exact ⟨_,_,_,A4V _,rfl⟩
theorem B5s:((List.range 6).all fun j=>(List.range j).all fun i=>!((idN (B7W i)).toList==(idN (B7W j)).toList))=true:=by kernel_rfl
theorem A7W (l:List B4):promosC (L5 l)=true:=by
 have hl:=A0S l
 unfold promosC
 rw [decide_eq_true (by omega),Bool.true_and]
 refine L1 fun k hk=>?_
 unfold A0T
 rw [A4W hk,show I9 (U1 l k)=true from A7V _ _ _ (A4V _),Bool.true_and,Bool.not_eq_true',List.any_eq_false]
 intro x hx
 obtain ⟨j,hj,rfl⟩:=E8 hx
 rw [List.length_take] at hj
 rw [show ((L5 l).take k).getD j default=U1 l j by rw [List.getD_eq_getElem?_getD,List.getElem?_take_of_lt (by omega),←List.getD_eq_getElem?_getD,A4W (by omega)]]
 have:=List.all_eq_true.1 (List.all_eq_true.1 B5s k (List.mem_range.2 (by omega))) j (List.mem_range.2 (by omega))
 rw [Bool.not_eq_true'] at this
 show ¬((idN (B7W j)).toList==(idN (B7W k)).toList)=true
 rw [this];simp
theorem B7H (n:Nat) (h:n≤3):X8 ((List.range n).map fun c:Nat=>A4r c)=true:=by
 rcases le3 h with rfl | rfl | rfl | rfl<;>kernel_rfl
theorem A7g (l:List G8):(Q6 l).length≤3∧(∀ x∈Q6 l,A3r x=true∧x.cat.size≤12)∧X8 ((Q6 l).map G8.cat)=true:=by
 unfold Q6
 refine ⟨by rw [List.length_map,List.length_range];omega,fun x hx=>?_,?_⟩
 ·obtain ⟨c,_,rfl⟩:=List.mem_map.1 hx
  have:=E5 (l.getD c default).rate (n:=3000) (by decide)
  refine ⟨?_,X3 (A5u _)⟩
  unfold A3r
  rw [show (A7f l c).cat=A4r c from rfl,A5u,show R4 0 10000 (A7f l c).rate=true from J2.2 ⟨this.1,by show C5 _ 3000≤_;omega⟩];rfl
 ·rw [List.map_map]
  exact B7H _ (by omega)
theorem B0I:((List.range 3).all fun k:Nat=>F8 (O9 k))=true:=by kernel_rfl
theorem B4f (l:List K3) (k:Nat) (hk:k<3):U3 (E0 l k)=true:=by
 have hn:=List.all_eq_true.1 B0I k (List.mem_range.2 hk)
 have hz:=X3 hn
 unfold E0
 split
 ·obtain ⟨h1,h2,h3⟩:=A7g (l.getD k default).rates
  have m1:=E5 (l.getD k default).rest (n:=3000) (by decide)
  have m2:=E5 (l.getD k default).ship (n:=3000) (by decide)
  generalize Q6 (l.getD k default).rates=R at h1 h2 h3 ⊢
  unfold U3
  show (!(!F8 (O9 k)||!R4 0 10000 (C5 _ 3000)||!R4 0 10000 (C5 _ 3000)||decide ((R.length:Int)>40))&&(K8 R (fun _ x=>A3r x)&&X8 (R.map G8.cat)))=true
  rw [hn,J2.2 (show 0≤C5 (l.getD k default).rest 3000∧_≤10000 by omega),J2.2 (show 0≤C5 (l.getD k default).ship 3000∧_≤10000 by omega),decide_eq_false (by omega),h3,show K8 R (fun _ x=>A3r x)=true from L1 fun j hj=>(h2 _ (B3 hj)).1];rfl
 ·rcases lt3 hk with rfl | rfl | rfl
  ·exact (by kernel_rfl:U3 ⟨O9 (0:Nat),[],1000 * ((0:Nat):Int),500 * ((0:Nat):Int)⟩=true)
  ·exact (by kernel_rfl:U3 ⟨O9 (1:Nat),[],1000 * ((1:Nat):Int),500 * ((1:Nat):Int)⟩=true)
  ·exact (by kernel_rfl:U3 ⟨O9 (2:Nat),[],1000 * ((2:Nat):Int),500 * ((2:Nat):Int)⟩=true)
theorem B9g (l:List K3):(((List.range 3).map (E0 l)).map K3.name)=[O9 0,O9 1,O9 2]:=by
 have e:∀ k,(E0 l k).name=O9 k:=fun k=>by unfold E0;split<;>rfl
 show [(E0 l 0).name,(E0 l 1).name,(E0 l 2).name]=_
 rw [e,e,e];rfl
theorem B5H (t:Z9):taxC (K2 t)=true:=by
 have hr:=E5 t.round (n:=3) (by decide)
 have hz:∀ z∈(K2 t).zones,U3 z=true:=fun z hz=>by
  obtain ⟨k,hk,rfl⟩:=List.mem_map.1 hz
  exact B4f _ k (List.mem_range.1 hk)
 have hn:(K2 t).zones.length=3:=by show ((List.range 3).map _).length=3;rw [List.length_map,List.length_range]
 unfold taxC
 rw [show (K2 t).round=C5 t.round 3 from rfl,hn,decide_eq_false (show ¬ C5 t.round 3<0 by omega),decide_eq_false (show ¬ C5 t.round 3>2 by omega),show (K2 t).zones.map K3.name=[O9 0,O9 1,O9 2] from B9g _,
  show X8 [O9 0,O9 1,O9 2]=true by kernel_rfl,show K8 (K2 t).zones (fun _ z=>U3 z)=true from L1 fun j hj=>hz _ (B3 hj)];rfl
theorem B3Y (l:List Ab.Item) (k:Nat):A3m (O5 l k)=true∧(O5 l k).sku.size≤12∧(O5 l k).cat.size≤12∨8≤k:=by
 by_cases h8:8≤k
 ·exact .inr h8
 refine .inl ?_
 have e:∀ (c:D6) (pr:Int) (f:Bool),F8 c=true→0≤pr∧pr≤1000000000→A3m ⟨A0W k,c,pr,f⟩=true∧(A0W k).size≤12∧c.size≤12:=fun c pr f hc hp=>by
  refine ⟨?_,X3 (B1G _),X3 hc⟩
  unfold A3m
  rw [show F8 (Ab.Item.mk (A0W k) c pr f).sku=true from B1G _,show F8 (Ab.Item.mk (A0W k) c pr f).cat=true from hc,decide_eq_false (show ¬(Ab.Item.mk (A0W k) c pr f).price<0 from by show ¬ pr<0;omega),decide_eq_false (show ¬(Ab.Item.mk (A0W k) c pr f).price>1000000000 from by show ¬ pr>_;omega)];rfl
 have hm:=E5 (l.getD k default).price (n:=4000) (by decide)
 unfold O5
 split
 ·exact e _ _ _ (A5u _) (by omega)
 ·exact e _ _ _ (A5u _) (by omega)
theorem A5X {l:List Ab.Item} {x:Ab.Item} (h:x∈O0 l):A3m x=true∧x.sku.size≤12∧x.cat.size≤12:=by
 obtain ⟨k,hk,rfl⟩:=List.mem_map.1 h
 have:=List.mem_range.1 hk
 rcases B3Y l k with h | h
 ·exact h
 ·omega
theorem A8I (l:List Ab.Item):A1h (O0 l)=true:=by
 unfold A1h
 rw [A2T,B1H,show X8 [U8 97,U8 98,U8 99,U8 100,U8 101,U8 102,U8 103,U8 104]=true by kernel_rfl,show K8 (O0 l) (fun _ x=>A3m x)=true from L1 fun j hj=>(A5X (B3 hj)).1];rfl
theorem A8J (r:I4):Z8 (Z1 r)=true:=by
 have h1:=E5 r.ship.fee (n:=900) (by decide)
 have h2:=E5 r.ship.free (n:=3) (by decide)
 have h3:=E5 r.policy.window (n:=60) (by decide)
 have h4:=E5 r.policy.grace (n:=40) (by decide)
 have h5:=E5 r.policy.mode (n:=3) (by decide)
 have h6:=E5 r.policy.restock (n:=3) (by decide)
 have h7:=E5 r.policy.restock (n:=2500) (by decide)
 have h8:C5 r.policy.restock 3 * C5 r.policy.restock 2500≤2 * 2499:=Int.mul_le_mul (by omega) (by omega) (by omega) (by omega)
 have h9:0≤C5 r.policy.restock 3 * C5 r.policy.restock 2500:=Int.mul_nonneg h6.1 h7.1
 show (A1h (O0 r.items)&&promosC (L5 r.promos)&&taxC (K2 r.tax)&&A8u (A9V r.ship)&&A5D (A6o r.policy))=true
 rw [A8I,A7W,B5H r.tax]
 have e1:A8u (A9V r.ship)=true:=by
  show (R4 0 1000000000 (C5 r.ship.fee 900)&&R4 0 10000000000000 (C5 r.ship.free 3 * 4000))=true
  rw [J2.2 (by omega),J2.2 (by omega)];rfl
 have e2:A5D (A6o r.policy)=true:=by
  show (R4 0 100000 (20+C5 r.policy.window 60)&&R4 0 100000 (C5 r.policy.grace 40)&&decide (1+C5 r.policy.mode 3≥1)&&decide (1+C5 r.policy.mode 3≤3)&&R4 0 10000 (C5 r.policy.restock 3 * C5 r.policy.restock 2500)&&A1i (N0 r.policy.order)&&A1i (N0 r.policy.credit))=true
  rw [J2.2 (by omega),J2.2 (by omega),decide_eq_true (by omega),decide_eq_true (by omega),J2.2 (by omega),(Z0 _).1,(Z0 _).1];rfl
 rw [e1,e2];rfl
theorem B0R (r:I4):A0G (Z1 r):=by
 have h1:=A0S r.promos
 have h2:=(Z0 r.policy.order).2
 have h3:=(Z0 r.policy.credit).2
 refine ⟨by show (L5 r.promos).length≤9223372036854775807;omega,fun p hp=>?_,by show (N0 r.policy.order).length<_;omega,by show (N0 r.policy.credit).length<_;omega⟩
 obtain ⟨q,id,K,_,rfl⟩:=A4X hp
 exact A9U q id K
end Go.Proofs.YthdimklenlikgaaGreat
