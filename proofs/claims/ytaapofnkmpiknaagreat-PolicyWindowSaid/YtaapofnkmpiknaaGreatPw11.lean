/- Part 11 of the proof: contracts of the functions that the law reaches -/
import Derived.Test.YtaapofnkmpiknaaGreatPw10
set_option linter.unusedVariables false
set_option linter.unusedSimpArgs false
namespace Go.Ab
open Go
def A6o:List AV→Nat→(AV→Prop)→Prop
 | [],_,k=>k .junk
 | a::_,0,k=>k a
 | _::xs,n+1,k=>A6o xs n k
def B0h:List AV→Nat→AV→(List AV→Prop)→Prop
 | [],_,_,k=>k []
 | _::xs,0,v,k=>k (v::xs)
 | a::xs,n+1,v,k=>B0h xs n v fun xs'=>k (a::xs')
def U6 (A:List AV) (d:Option Tmp) (v:AV) (k:List AV→Prop):Prop:=match d with | some i=>B0h A i v k | none=>k A
theorem A1X:∀ (A:List AV) (i:Nat) (k:AV→Prop),A6o A i k=k (A.getD i .junk)
 | [],_,k=>by simp [A6o]
 | a::xs,0,k=>by simp [A6o]
 | a::xs,n+1,k=>by rw [A6o,A1X xs n k];simp
theorem A4S:∀ (A:List AV) (i:Nat) (v:AV) (k:List AV→Prop),B0h A i v k=k (A.set i v)
 | [],_,v,k=>by simp [B0h]
 | a::xs,0,v,k=>by simp [B0h]
 | a::xs,n+1,v,k=>by rw [B0h,A4S xs n v];simp
theorem K7 (A:List AV) (d:Option Tmp) (v:AV) (k:List AV→Prop):U6 A d v k=k (F3 A d v):=by
 cases d with
 | none=>rfl
 | some i=>exact A4S A i v k
def C2u (v:Value) (k:AV→Prop):Prop :=
 match v with
 | .bool b=>k (.bool b)
 | .int kk n=>k (.int kk n)
 | .string s=>k (.str s)
 | .pointer a=>(match a with | none=>k .nilp | some _=>k .junk)
 | .slice a l c=>(match a with | none=>(match l,c with | 0,0=>k .emp | _,_=>k .junk) | some _=>k .junk)
 | .nilFunc=>k .nilf
 | .nilIface=>k .nili
 | v=>k (H4 v)
theorem B9y (v:Value) (k:AV→Prop):C2u v k=k (H4 v):=by
 cases v with
 | pointer a=>cases a<;>rfl
 | slice a l c=>cases a with
  | none=>cases l<;>cases c<;>rfl
  | some a=>rfl
 | _=>rfl
def evK (A:List AV) (x:Operand) (k:AV→Prop):Prop :=
 match x with
 | .tmp t=>A6o A t k
 | .const v=>C2u v k
 | .global _=>k .junk
 | .func f=>k (.fn (.func f) [] [])
theorem A1T (A:List AV) (x:Operand) (k:AV→Prop):evK A x k=k (ev A x):=by
 cases x with
 | tmp t=>exact A1X A t k
 | const v=>exact B9y v k
 | _=>rfl
def B4Q (A:List AV):List Operand→(List AV→Prop)→Prop
 | [],k=>k []
 | x::xs,k=>evK A x fun v=>B4Q A xs fun vs=>k (v::vs)
theorem B3H (A:List AV):∀ (xs:List Operand) (k:List AV→Prop),B4Q A xs k=k (xs.map (ev A))
 | [],k=>rfl
 | x::xs,k=>by simp only [B4Q,A1T,B3H A xs,D0j]
def B4P (A:List AV):List (Nat×Operand)→(List (Nat×AV)→Prop)→Prop
 | [],k=>k []
 | p::ps,k=>evK A p.2 fun v=>B4P A ps fun vs=>k ((p.1,v)::vs)
theorem A6w (A:List AV):∀ (ps:List (Nat×Operand)) (k:List (Nat×AV)→Prop),B4P A ps k=k (ps.map fun p=>(p.1,ev A p.2))
 | [],k=>rfl
 | p::ps,k=>by simp only [B4P,A1T,A6w A ps,D0j]
def B9I (A:List AV) (x:Option Operand) (k:Option AV→Prop):Prop:=match x with | none=>k none | some y=>evK A y fun v=>k (some v)
theorem B9J (A:List AV) (x:Option Operand) (k:Option AV→Prop):B9I A x k=k (x.map (ev A)):=by
 cases x with
 | none=>rfl
 | some y=>exact A1T A y _
def A2v (b:Bool) (x y:Prop):Prop:=match b with | true=>x | false=>y
theorem P9 (b:Bool) (x y:Prop):A2v b x y↔(b=true→x)∧(b=false→y):=by cases b<;>simp [A2v]
theorem B7 {b:Bool} {x y:Prop} (h1:b=true→x) (h2:b=false→y):A2v b x y:=by cases b;exact h2 rfl;exact h1 rfl
structure U8 (P:Program) (f:FuncId) (args:List AV) (st:St) (k:KK):Prop where
 out:A0m P f args st k
def B6E:List AV→List AV→(List AV→Prop)→Prop
 | [],b,k=>k b
 | v::a,b,k=>B6E a b fun l=>k (v::l)
theorem A1L:∀ (a b:List AV) (k:List AV→Prop),B6E a b k=k (a++b)
 | [],b,k=>rfl
 | v::a,b,k=>by rw [B6E,A1L a b];rfl
def B7j:List AV→Nat→(Nat→Prop)→Prop
 | [],n,k=>k n
 | _::l,n,k=>B7j l (n+1) k
theorem B3R:∀ (l:List AV) (n:Nat) (k:Nat→Prop),B7j l n k=k (n+l.length)
 | [],n,k=>by simp [B7j]
 | a::l,n,k=>by rw [B7j,B3R l];simp [D1H,Nat.add_comm 1]
def B1r:List AV→List AV→(List AV→Prop)→Prop
 | cs,[],k=>k cs
 | _::cs,v::new,k=>B1r cs new fun r=>k (v::r)
 | [],_::_,k=>k []
def A3w:List AV→Nat→List AV→(List AV→Prop)→Prop
 | cs,0,new,k=>B1r cs new k
 | a::cs,n+1,new,k=>A3w cs n new fun r=>k (a::r)
 | [],_+1,_,k=>k []
theorem B1s:∀ (cs new:List AV) (k:List AV→Prop),new.length≤cs.length→B1r cs new k=k (new++cs.drop new.length)
 | cs,[],k,_=>by simp [B1r]
 | c::cs,v::new,k,h=>by rw [B1r,B1s cs new _ (by simpa using h)];simp
 | [],v::new,k,h=>by simp at h
theorem A4j:∀ (cs:List AV) (n:Nat) (new:List AV) (k:List AV→Prop),n+new.length≤cs.length→A3w cs n new k=k (cs.take n++new++cs.drop (n+new.length))
 | cs,0,new,k,h=>by rw [A3w,B1s cs new k (by omega)];simp
 | a::cs,n+1,new,k,h=>by
  rw [A3w,A4j cs n new _ (by simp at h;omega)]
  simp [show n+1+new.length=(n+new.length)+1 from by omega]
 | [],n+1,new,k,h=>by simp at h
def A9h (place:Nat→Option (Nat×Nat)):List (Nat×AV)→List AV→(List AV→Prop)→Prop
 | [],cells,k=>k cells
 | (i,v)::rest,cells,k=>match place i with
  | none=>False
  | some (off,size)=>match Nat.beq (A2 v).length size&&Nat.ble (off+size) cells.length&&(A2 v).all AV.one&&Nat.blt 0 size with
   | true=>A3w cells off (A2 v) fun cells'=>A9h place rest cells' k
   | false=>False
theorem A5c {place:Nat→Option (Nat×Nat)}:∀ (ps:List (Nat×AV)) (cells:List AV) (k:List AV→Prop),A9h place ps cells k→∃ out,A2s place cells ps=some out∧k out
 | [],cells,k,h=>⟨cells,rfl,h⟩
 | (i,v)::ps,cells,k,h=>by
  unfold A9h at h
  unfold A2s
  split at h
  ·exact h.elim
  ·rename_i off size hp
   rw [hp]
   simp only
   split at h
   ·rename_i hb
    simp only [C9l,Nat.beq_eq,Nat.ble_eq,D1s] at hb
    obtain ⟨⟨⟨h1,h2⟩,h3⟩,h4⟩:=hb
    rw [A4j _ _ _ _ (by omega)] at h
    rw [if_neg (by simp only [not_or,Decidable.not_not,D1r];exact ⟨h1,by omega,h3,by omega⟩)]
    rw [h1] at h
    exact A5c ps _ k h
   ·exact h.elim
def B3q (T:C7) (t:TypeId) (ps:List (Nat×AV)) (k:AV→Prop):Prop :=
 match T t with
 | none=>False
 | some r=>match r.desc with
  | .struct fs=>match places T fs.toList with
   | none=>False
   | some pl=>A9h (fun i=>pl[i]?) ps (A2 (H4 r.zero)) fun out=>k (.agg out)
  | .array n el=>match T el with
   | none=>False
   | some q=>A9h (fun i=>some (i * q.size,q.size)) ps (A2 (H4 r.zero)) fun out=>k (.agg out)
  | _=>False
theorem B6c {T:C7} {t:TypeId} {ps:List (Nat×AV)} {k:AV→Prop} (h:B3q T t ps k):A3O T t ps k:=by
 unfold B3q at h
 unfold A3O
 split at h
 ·exact h.elim
 ·rename_i r hr
  rw [hr]
  simp only
  split at h
  ·rename_i fs hd
   rw [hd]
   simp only
   split at h
   ·exact h.elim
   ·rename_i pl hp
    rw [hp]
    simp only
    obtain ⟨out,h1,h2⟩:=A5c _ _ _ h
    rw [h1];exact h2
  ·rename_i n el hd
   rw [hd]
   simp only
   split at h
   ·exact h.elim
   ·rename_i q hq
    rw [hq]
    simp only
    obtain ⟨out,h1,h2⟩:=A5c _ _ _ h
    rw [h1];exact h2
  ·exact h.elim
def A3c:Nat→List AV→(List AV→List AV→Prop)→Prop
 | 0,l,k=>k [] l
 | n+1,v::l,k=>A3c n l fun a b=>k (v::a) b
 | _+1,[],k=>k [] []
theorem A5M:∀ (n:Nat) (l:List AV) (k:List AV→List AV→Prop),A3c n l k=k (l.take n) (l.drop n)
 | 0,l,k=>by simp [A3c]
 | n+1,v::l,k=>by rw [A3c,A5M n l];simp
 | n+1,[],k=>by simp [A3c]
def A7e (agg:Bool) (e:Nat):Nat→List AV→(List AV→Prop)→Prop
 | 0,_,k=>k []
 | n+1,out,k=>match agg with
  | true=>A3c e out fun a b=>A7e agg e n b fun r=>k (.agg a::r)
  | false=>match out with
   | v::b=>A7e agg e n b fun r=>k (v::r)
   | []=>False
theorem B1f (agg:Bool) (e n:Nat) (out:List AV) (he:agg=false→e=1):S3 agg e (n+1) out=(if agg then .agg (out.take e) else out.getD 0 .junk)::S3 agg e n (out.drop e):=by
 unfold S3
 rw [List.range_succ_eq_map,D0j,D2c]
 congr 1
 ·cases agg<;>simp
 ·refine D1d fun i _=>?_
  cases agg with
  | true =>
   simp only [Function.comp,if_true]
   rw [List.drop_drop,show (i+1) * e=e+i * e from by rw [D0Z];omega]
  | false =>
   have:=he rfl
   subst this
   simp
theorem A5t {agg:Bool} {e:Nat} (he:agg=false→e=1):∀ (n:Nat) (out:List AV) (k:List AV→Prop),A7e agg e n out k→k (S3 agg e n out)
 | 0,out,k,h=>h
 | n+1,out,k,h=>by
  unfold A7e at h
  rw [B1f agg e n out he]
  cases agg with
  | true =>
   simp only [A5M] at h
   exact A5t he n _ _ h
  | false =>
   simp only at h
   have:=he rfl
   subst this
   split at h
   ·rename_i v b;exact A5t he n _ _ h
   ·exact h.elim
def C0l (fz:Bool) (ty:TypeId) (v:AV) (st:St) (k:KK):Prop :=
 match Nat.blt 0 (A2 v).length&&(A2 v).all AV.one with
 | true=>(match fz with
  | true=>k (.fptr v 0) st
  | false=>B7j (A2 v) 0 fun n=>∀ b,st b=none→k (.optr n b 0 0) (upd st b ⟨ty,n,1,fun _=>v⟩))
 | false=>False
theorem B4z {fz:Bool} {ty:TypeId} {v:AV} {st:St} {k:KK} (h:C0l fz ty v st k):B2e ty v st k:=by
 unfold C0l at h
 split at h
 ·rename_i hb
  simp only [C9l,D1s] at hb
  cases fz with
  | true=>exact ⟨hb.1,hb.2,.inl h⟩
  | false =>
   simp only [B3R,C9y] at h
   exact ⟨hb.1,hb.2,.inr h⟩
 ·exact h.elim
def C1W (fz:Bool) (T:C7) (t:TypeId) (len:Nat) (ps:List (Nat×AV)) (st:St) (k:KK):Prop :=
 match T t with
 | none=>False
 | some r=>match r.desc with
  | .slice el=>match T el with
   | none=>False
   | some q=>match Nat.blt 0 (len * q.size)&&Nat.ble (len * q.size) 16777216&&Nat.beq q.zero.cells.size q.size&&(q.agg||Nat.beq q.size 1) with
    | false=>False
    | true=>A9h (fun i=>some (i * q.size,q.size)) ps ((List.range (len * q.size)).map fun i=>(A2 (H4 q.zero)).getD (i % q.size) .junk) fun out=>match out.all AV.one with
    | false=>False
    | true=>A7e q.agg q.size len out fun els=>match fz with
     | false=>k (.arr q.size len (fun i=>els.getD i .junk)) st
     | true=>∀ b,st b=none→k (.own q.size b 0 len) (upd st b ⟨el,q.size,len,fun i=>els.getD i .junk⟩)
  | _=>False
theorem C0o {fz:Bool} {T:C7} {t:TypeId} {len:Nat} {ps:List (Nat×AV)} {st:St} {k:KK} (h:C1W fz T t len ps st k):T2 T t len ps st k:=by
 unfold C1W at h
 unfold T2
 split at h
 ·exact h.elim
 ·rename_i r hr
  rw [hr]
  simp only
  split at h
  ·rename_i el hd
   rw [hd]
   simp only
   split at h
   ·exact h.elim
   ·rename_i q hq
    rw [hq]
    split at h
    ·exact h.elim
    rename_i hb
    simp only [C9l,D1s,Nat.ble_eq,Nat.beq_eq,D0A] at hb
    obtain ⟨⟨⟨h1,h2⟩,h3⟩,h4'⟩:=hb
    have h4:q.agg=false→q.size=1:=fun e=>h4'.resolve_left (by simp [e])
    refine ⟨h1,h2,h3,h4,?_⟩
    obtain ⟨out,ho,h⟩:=A5c _ _ _ h
    rw [ho]
    split at h
    ·exact h.elim
    rename_i hone
    have h:=A5t h4 _ _ _ h
    refine ⟨hone,?_⟩
    cases fz with
    | false=>exact .inl h
    | true=>exact .inr h
  ·exact h.elim
def B7b:List AV→Nat→(AV→Prop)→Prop
 | [],_,_=>False
 | a::_,0,k=>k a
 | _::xs,n+1,k=>B7b xs n k
theorem B3K:∀ (A:List AV) (i:Nat) (k:AV→Prop),B7b A i k→∃ y,A[i]?=some y∧k y
 | [],_,_,h=>h.elim
 | a::_,0,_,h=>⟨a,rfl,h⟩
 | _::xs,n+1,k,h=>by obtain ⟨y,h1,h2⟩:=B3K xs n k h;exact ⟨y,by simpa using h1,h2⟩
def A5d (r:B5) (cs:List AV) (o:Nat) (k:AV→Prop):Prop :=
 match r.agg with
 | true=>(match Nat.ble (o+r.size) cs.length with
  | true=>A3c o cs fun _ b=>A3c r.size b fun c _=>k (.agg c)
  | false=>False)
 | false=>B7b cs o k
theorem A8e {r:B5} {cs:List AV} {o:Nat} {k:AV→Prop} (h:A5d r cs o k):pick r cs o k:=by
 unfold A5d at h
 unfold pick
 split at h
 ·rename_i e
  rw [e]
  split at h
  ·rename_i hb
   simp only [A5M] at h
   exact ⟨by simpa using hb,h⟩
  ·exact h.elim
 ·rename_i e
  rw [e]
  obtain ⟨y,h1,h2⟩:=B3K _ _ _ h
  simp only
  rw [h1];exact h2
structure B6g (T:C7) (t:TypeId) (e b i o:Nat) (st:St) (k:KK):Prop where
 out:A0n T t (.optr e b i o) st k
def B1Y (T:C7) (t:TypeId) (v:AV) (st:St) (k:KK):Prop :=
 match v with
 | .fptr v o=>(match T t with | some r=>A5d r (A2 v) o (fun y=>k y st) | none=>False)
 | .optr e b i o=>B6g T t e b i o st k
 | _=>False
theorem A8c {T:C7} {t:TypeId} {v:AV} {st:St} {k:KK} (h:B1Y T t v st k):A0n T t v st k:=by
 unfold B1Y at h
 split at h
 ·unfold A0n
  split at h
  ·rename_i hr;rw [hr];exact A8e h
  ·exact h.elim
 ·exact h.out
 ·exact h.elim
structure B2a (T:C7) (t:TypeId) (e b i o:Nat) (v:AV) (st:St) (k:KK):Prop where
 out:(match T t with | some r=>0<r.size | none=>False)∧A3R T t (.optr e b i o) v st k
def B8E (T:C7) (t:TypeId) (p v:AV) (st:St) (k:KK):Prop:=match p with | .optr e b i o=>B2a T t e b i o v st k | _=>False
structure A8a (T:C7) (t:TypeId) (s x:AV) (st:St) (k:KK):Prop where
 out:A1H T t s x st k
structure xMk (T:C7) (t:TypeId) (l c:AV) (st:St) (k:KK):Prop where
 out:A6N T t l c st k
def A8b (T:C7) (b:Builtin) (args:List AV) (ts:List TypeId) (st:St) (k:KK):Prop :=
 match b with
 | .append=>match args,ts with
  | [s,x],[t,u]=>(match Nat.beq t u with | true=>A8a T t s x st k | false=>False)
  | _,_=>False
 | b=>W8 T b args ts st k
theorem B1V {T:C7} {b:Builtin} {args:List AV} {ts:List TypeId} {st:St} {k:KK} (h:A8b T b args ts st k):W8 T b args ts st k:=by
 unfold A8b at h
 split at h
 ·unfold W8
  split at h
  ·split at h
   ·rename_i e;exact ⟨D1y e,h.out⟩
   ·exact h.elim
  ·exact h.elim
 ·exact h
def B0C (P:Program) (T:C7) (M:E7) (r:AV) (name:String) (args:List AV) (st:St) (k:KK):Prop :=
 match r with
 | .iface t v=>match M t name with
  | some (f,none)=>U8 P f (v::args) st k
  | some (f,some el)=>B1Y T el v st (fun u st'=>U8 P f (u::args) st' k)
  | none=>False
 | _=>False
theorem B3t {P:Program} {T:C7} {M:E7} {r:AV} {name:String} {args:List AV} {st:St} {k:KK} (h:B0C P T M r name args st k):A3n P T M r name args st k:=by
 unfold B0C at h
 unfold A3n
 split at h
 ·rename_i t v
  simp only
  split at h
  ·rename_i f hf;rw [hf];exact h.out
  ·rename_i f el hf;rw [hf];exact A1I (k:=fun u st'=>U8 P f (u::args) st' k) (fun u hu=>hu.out) (A8c h)
  ·exact h.elim
 ·exact h.elim
def C1U (T:C7) (op:BinOp) (t:TypeId) (x y:AV) (k:AV→Prop):Prop :=
 match x,y,op with
 | .int kk a,.int _ b,.shl=>A2v (decide (b<0)) False (k (.int kk (kk.wrap (a * 2 ^ (min b.toNat kk.bits)))))
 | .int kk a,.int _ b,.shr=>A2v (decide (b<0)) False (k (.int kk (a.fdiv (2 ^ (min b.toNat kk.bits)))))
 | .int kk a,.int k' b,.quo=>match decide (kk=k') with | true=>A2v (decide (b=0)) False (k (.int kk (kk.wrap (a.tdiv b)))) | false=>False
 | .int kk a,.int k' b,.rem=>match decide (kk=k') with | true=>A2v (decide (b=0)) False (k (.int kk (a.tmod b))) | false=>False
 | x,y,op=>match A9l T op t x y with | some z=>k z | none=>False
theorem C0k {T:C7} {op:BinOp} {t:TypeId} {x y:AV} {k:AV→Prop} (h:C1U T op t x y k):match A9l T op t x y with | some z=>k z | none=>False:=by
 unfold C1U at h
 split at h
 ·obtain ⟨h1,h2⟩:=(P9 _ _ _).1 h
  rename_i kk a k' b
  by_cases hb:b<0
  ·exact (h1 (D0r hb)).elim
  ·simp only [A9l,A5g,if_neg hb];exact h2 (C9s hb)
 ·obtain ⟨h1,h2⟩:=(P9 _ _ _).1 h
  rename_i kk a k' b
  by_cases hb:b<0
  ·exact (h1 (D0r hb)).elim
  ·simp only [A9l,A5g,if_neg hb];exact h2 (C9s hb)
 ·rename_i kk a k' b
  by_cases hk:kk=k'
  ·rw [D0r hk] at h
   obtain ⟨h1,h2⟩:=(P9 _ _ _).1 h
   by_cases hb:b=0
   ·exact (h1 (D0r hb)).elim
   ·simp only [A9l,B8X,if_pos hk,if_neg hb];exact h2 (C9s hb)
  ·rw [C9s hk] at h;exact h.elim
 ·rename_i kk a k' b
  by_cases hk:kk=k'
  ·rw [D0r hk] at h
   obtain ⟨h1,h2⟩:=(P9 _ _ _).1 h
   by_cases hb:b=0
   ·exact (h1 (D0r hb)).elim
   ·simp only [A9l,B8X,if_pos hk,if_neg hb];exact h2 (C9s hb)
  ·rw [C9s hk] at h;exact h.elim
 ·exact h
def B8A (T:C7) (op:BinOp) (t:TypeId) (y:Operand) (vx vy:AV) (k:AV→Prop):Prop :=
 match B8Y T op t y vx with
 | some z=>k z
 | none=>C1U T op t vx vy k
theorem B8B {T:C7} {op:BinOp} {t:TypeId} {y:Operand} {vx vy:AV} {k:AV→Prop} (h:B8A T op t y vx vy k):match B0J T op t y vx vy with | some z=>k z | none=>False:=by
 unfold B8A at h
 unfold B0J
 split at h
 ·rename_i z hz;rw [hz];exact h
 ·rename_i hz;rw [hz];exact C0k h
structure C1V (s:ByteArray) (j:Int) (k:AV→Prop):Prop where
 out:∃ h:0≤j∧j.toNat<s.size,k (.int .u8 ((s[j.toNat]'h.2).toNat:Int))
def B3s (T:C7) (t:TypeId) (v i:AV) (k:AV→Prop):Prop :=
 match T t with
 | none=>False
 | some r=>match r.desc,v,i with
  | .string,.str s,.int _ j=>C1V s j k
  | .array n el,.agg cs,.int _ j=>match T el with
   | none=>False
   | some q=>(q.agg=false∧j.toNat * q.size<cs.length∧0≤j∧j<n)∧A6o cs (j.toNat * q.size) k
  | _,_,_=>False
theorem B6f {T:C7} {t:TypeId} {v i:AV} {k:AV→Prop} (h:B3s T t v i k):A3Q T t v i k:=by
 unfold B3s at h
 unfold A3Q
 split at h
 ·exact h.elim
 rename_i r hr
 rw [hr]
 simp only
 split at h
 ·rename_i s kk j hd
  rw [hd]
  exact h.out
 ·rename_i n el cs kk j hd
  rw [hd]
  split at h
  ·exact h.elim
  ·rename_i q hq
   rw [A1X] at h
   simp only [hq]
   exact h
 ·exact h.elim
def B9C (n:Nat) (k:Nat→Prop):Prop :=
 match n with
 | 0=>k 0 | 1=>k 1 | 2=>k 2 | 3=>k 3 | 4=>k 4 | 5=>k 5 | 6=>k 6 | 7=>k 7 | 8=>k 8 | 9=>k 9 | 10=>k 10 | 11=>k 11 | 12=>k 12 | 13=>k 13 | 14=>k 14 | 15=>k 15 | 16=>k 16 | 17=>k 17 | 18=>k 18 | 19=>k 19 | 20=>k 20 | n=>k n
theorem B3W (n:Nat) (k:Nat→Prop):B9C n k=k n:=by unfold B9C;split<;>rfl
def A4n (T:C7) (s:TypeId) (p:AV) (f:Nat) (k:AV→Prop):Prop :=
 match T s with
 | none=>False
 | some r=>match r.desc with
  | .struct fs=>match fs[f]? with
   | none=>False
   | some fl=>match T fl.type with
    | none=>False
    | some q=>match Nat.blt 0 q.size with
     | true=>(match p with
      | .fptr v o=>B9C (o+fl.offset) fun o'=>k (.fptr v o')
      | .optr e b i o=>B9C (o+fl.offset) fun o'=>k (.optr e b i o')
      | _=>False)
     | false=>False
  | _=>False
theorem A8r {T:C7} {s:TypeId} {p:AV} {f:Nat} {k:AV→Prop} (h:A4n T s p f k):R9 T s p f k:=by
 unfold A4n at h
 unfold R9
 split at h
 ·exact h.elim
 rename_i r hr
 rw [hr]
 simp only
 split at h
 case h_2=>exact h.elim
 rename_i fs hd
 rw [hd]
 simp only
 split at h
 ·exact h.elim
 rename_i fl hf
 rw [hf]
 simp only
 split at h
 ·exact h.elim
 rename_i q hq
 rw [hq]
 simp only
 split at h
 ·rename_i hb
  refine ⟨by simpa using hb,?_⟩
  split at h
  ·rw [B3W] at h;exact h
  ·rw [B3W] at h;exact h
  ·exact h.elim
 ·exact h.elim
def B3r (T:C7) (s:TypeId) (v:AV) (f:Nat) (k:AV→Prop):Prop :=
 match T s with
 | none=>False
 | some r=>match r.desc with
  | .struct fs=>match fs[f]? with
   | none=>False
   | some fl=>match T fl.type with
    | none=>False
    | some q=>match v with
     | .agg cs=>A5d q cs fl.offset k
     | _=>False
  | _=>False
theorem B6e {T:C7} {s:TypeId} {p:AV} {f:Nat} {k:AV→Prop} (h:B3r T s p f k):A3P T s p f k:=by
 unfold B3r at h
 unfold A3P
 split at h
 ·exact h.elim
 rename_i r hr
 rw [hr]
 simp only
 split at h
 case h_2=>exact h.elim
 rename_i fs hd
 rw [hd]
 simp only
 split at h
 ·exact h.elim
 rename_i fl hf
 rw [hf]
 simp only
 split at h
 ·exact h.elim
 rename_i q hq
 rw [hq]
 simp only
 split at h
 ·exact A8e h
 ·exact h.elim
def xOp (P:Program) (T:C7) (M:E7) (fz:Bool) (op:Op) (A:List AV) (st:St) (k:KK):Prop :=
 match op with
 | .move x=>evK A x fun v=>k v st
 | .assign x=>evK A x fun v=>k v st
 | .pick c x y=>evK A c fun v=>match v with | .bool b=>A2v b (evK A x fun u=>k u st) (evK A y fun u=>k u st) | _=>False
 | .binOp op t x y _=>evK A x fun v=>evK A y fun u=>B8A T op t y v u (fun z=>k z st)
 | .unOp op _ x=>evK A x fun v=>match aUn op v with | some z=>k z st | none=>False
 | .load t x=>evK A x fun v=>B1Y T t v st k
 | .store t x y=>evK A x fun v=>evK A y fun u=>B8E T t v u st k
 | .alloc t=>match T t with | some r=>C0l fz t (H4 r.zero) st k | none=>False
 | .box t x=>evK A x fun v=>C0l fz t v st k
 | .build t ps=>B4P A ps.toList fun vs=>B3q T t vs (fun v=>k v st)
 | .buildSlice t n ps=>match n with
  | 0=>B4P A ps.toList fun vs=>B0M T t vs st k
  | m+1=>B4P A ps.toList fun vs=>C1W fz T t (m+1) vs st k
 | .nilCheck x=>evK A x fun v=>match A3o v with | true=>k v st | false=>False
 | .convert s d x=>evK A x fun v=>match A4v T s d v with | some z=>k z st | none=>False
 | .makeInterface t x=>evK A x fun v=>match A9E T t with | true=>k (.iface t v) st | false=>False
 | .makeFunc fn fs cs=>B4Q A fs.toList fun us=>B4Q A cs.toList fun vs=>k (.fn fn us vs) st
 | .makeSlice t l c=>evK A l fun v=>evK A c fun u=>xMk T t v u st k
 | .slice t x lo hi mx=>evK A x fun v=>B9I A lo fun l=>B9I A hi fun h=>B9I A mx fun m=>A5h T t v l h m (fun v=>k v st)
 | .fieldAddr s x f=>evK A x fun v=>A4n T s v f (fun v=>k v st)
 | .field s x f=>evK A x fun v=>B3r T s v f (fun v=>k v st)
 | .indexAddr t x i=>evK A x fun v=>evK A i fun u=>V1 T t v u (fun v=>k v st)
 | .index t x i=>evK A x fun v=>evK A i fun u=>B3s T t v u (fun v=>k v st)
 | .typeAssert x _ t ok=>evK A x fun v=>match A6t T v t ok with | some z=>k z st | none=>False
 | .extract x i=>evK A x fun v=>A1l v i (fun v=>k v st)
 | .call c=>B4Q A c.args.toList fun args=>match c.callee with
  | .builtin b=>A8b T b args c.argTypes.toList st k
  | .invoke r name=>evK A r fun v=>B0C P T M v name args st k
  | .value f=>evK A f fun v=>match v with
   | .fn g fs cs=>(match g with | .func n=>B6E fs args fun l=>B6E l cs fun l=>U8 P n l st k | _=>False)
   | _=>False
 | _=>False
theorem A0H {P:Program} {T:C7} {M:E7} {fz:Bool} {o:Oper} {A:List AV} {st:St} {k:KK} (h:xOp P T M fz o.op A st k):aOp P T M o A st k:=by
 obtain ⟨dst,op,type,pos,after,guard⟩:=o
 unfold aOp
 cases op<;>simp only [xOp,A1T,B3H,A6w,B9J,A1L] at h ⊢<;>try exact h
 case alloc t =>
  split at h
  ·rename_i r hr;rw [hr];exact B4z h
  ·exact h.elim
 case box t x=>exact B4z h
 case fieldAddr t x f=>exact A8r h
 case field t x f=>exact B6e h
 case binOp op t x y _=>exact B8B h
 case index t x f=>exact B6f h
 case load t x=>exact A8c h
 case store t x y =>
  unfold B8E at h
  split at h
  ·rename_i hv;rw [hv];exact h.out
  ·exact h.elim
 case makeSlice t l c=>exact h.out
 case build t ps=>exact B6c h
 case buildSlice t n ps =>
  cases n with
  | zero=>simp only [A6w] at h;exact h
  | succ m=>simp only [A6w] at h;exact C0o h
 case pick c x y =>
  split at h
  ·rename_i b hb
   simp only [hb]
   exact (P9 _ _ _).1 h
  ·exact h.elim
 case nilCheck x =>
  split at h
  ·rename_i hb;exact ⟨hb,h⟩
  ·exact h.elim
 case makeInterface t x =>
  split at h
  ·rename_i hb;exact ⟨hb,h⟩
  ·exact h.elim
 case call c =>
  obtain ⟨callee,args,ts⟩:=c
  cases callee with
  | builtin b=>exact B1V h
  | invoke r name=>simp only [A1T] at h;exact B3t h
  | value f =>
   simp only [A1T,A1L] at h
   simp only [A1J]
   split at h
   ·rename_i g fs cs hf
    rw [hf]
    simp only
    split at h
    ·exact h.out
    ·exact h.elim
   ·exact h.elim
def A3j (ops:List Oper) (o:Oper) (A:List AV) (x y:Prop):Prop :=
 match o.guard with
 | none=>x
 | some (g,want)=>match ops[g]? with
  | none=>y
  | some p=>match p.dst with
   | none=>y
   | some d=>A6o A d fun v=>match v with
    | .bool b=>(match want with | true=>A2v b x y | false=>A2v b y x)
    | .tuple _=>y
    | _=>False
theorem A1D {ops:List Oper} {o:Oper} {A:List AV} {x y:Prop} (h:A3j ops o A x y):∃ b,R5 ops o A=some b∧(b=true→x)∧(b=false→y):=by
 unfold A3j at h
 unfold R5
 split at h
 ·rename_i hg;exact ⟨true,by simp [hg],fun _=>h,fun e=>by cases e⟩
 ·rename_i g want hg
  simp only [hg]
  split at h
  ·rename_i hp;exact ⟨false,by simp [hp],(fun e=>by cases e),fun _=>h⟩
  ·rename_i p hp
   simp only [hp]
   split at h
   ·rename_i hd;exact ⟨false,by simp [hd],(fun e=>by cases e),fun _=>h⟩
   ·rename_i d hd
    simp only [hd]
    rw [A1X] at h
    rw [C9i] at h
    cases hA:A[d]? with
    | none=>exact ⟨false,by simp,(fun e=>by cases e),fun _=>by rw [hA] at h;exact h.elim⟩
    | some v =>
     rw [hA] at h
     simp only [Option.getD_some] at h
     split at h
     ·rename_i b
      cases want with
      | true=>exact ⟨b,by simp,(P9 _ _ _).1 h⟩
      | false=>exact ⟨!b,by simp,fun e=>((P9 _ _ _).1 h).2 (by simpa using e),fun e=>((P9 _ _ _).1 h).1 (by simpa using e)⟩
     ·exact ⟨false,rfl,(fun e=>by cases e),fun _=>h⟩
     ·exact h.elim
def inF (frz:List Nat) (d:Option Tmp):Bool:=match d with | some p=>frz.contains p | none=>false
def A2Z (frz:List Nat) (o1 o2:Oper):Option (Tmp×TypeId×TypeId×Operand) :=
 match o1.guard,o2.guard with
 | none,none=>match o1.op,o1.dst,o2.op with
  | .alloc t,some p,.store u (.tmp q) y=>(match Nat.beq p q&&frz.contains p with | true=>some (p,t,u,y) | false=>none)
  | _,_,_=>none
 | _,_=>none
theorem B2u {rd:Addr→Option Value} {sz:Nat→Nat} {v v':AV} {r:Nat} {c:Value} (he:A2 v=A2 v') (h:Rep rd sz (.fptr v r) c):Rep rd sz (.fptr v' r) c:=by
 cases h with
 | fptr v r a g hr hg=>exact .fptr v' r a g (fun j hj=>hr j (by rw [he];exact hj)) (fun j y hy=>hg j y (by rw [he];exact hy))
theorem B9k {A:List AV} {st:St} {p b:Nat} {d:Option Tmp} {x y:H1} {v:AV} {e:Nat} (hb:st b=none) (hn:0<y.n) (hv:A2 (y.f 0)=A2 v) (hp:p<A.length) (hd:d≠some p) :
  A2O (F3 (F3 A (some p) (.optr e b 0 0)) d (.tuple [])) (upd (upd st b x) b y) (F3 (F3 A (some p) (.fptr v 0)) d (.tuple [])) st:=by
 intro w a hA hS
 have hst:upd (upd st b x) b y b=some y:=by simp [upd]
 have hne:∀ c,c≠b→upd (upd st b x) b y c=st c:=fun c hc=>by simp [upd,hc]
 have he:P6 (upd (upd st b x) b y) w st w:=⟨rfl,rfl,rfl,C9q _,fun c _ hs=>⟨rfl,by
  by_cases hc:c=b
  ·subst hc;exact hb
  ·rw [hne c hc] at hs;exact hs⟩,fun _=>C9q _⟩
 obtain ⟨cs,hok⟩:=hS b y hst
 refine ⟨⟨by have:=hA.len;simp [F3] at this ⊢;cases d<;>simp_all,fun i u hu=>?_,hA.defers⟩,fun c z hz=>?_,he⟩
 ·by_cases hi:i=p
  ·subst hi
   have hpt:(F3 (F3 A (some i) (.optr e b 0 0)) d (.tuple []))[i]?=some (.optr e b 0 0):=by
    cases d with
    | none=>simp [F3,hp]
    | some q=>simp only [F3];rw [D0H (fun h=>hd (by rw [h]))];simp [hp]
   have hpt':(F3 (F3 A (some i) (.fptr v 0)) d (.tuple []))[i]?=some (.fptr v 0):=by
    cases d with
    | none=>simp [F3,hp]
    | some q=>simp only [F3];rw [D0H (fun h=>hd (by rw [h]))];simp [hp]
   rw [hpt'] at hu
   cases hu
   obtain ⟨c,hc1,hc2⟩:=hA.at_ i _ hpt
   refine ⟨c,hc1,?_⟩
   cases hc2
   have:=B2u hv (A5U (hok.evo he rfl) hb hn)
   simpa using this
  ·have hsame:(F3 (F3 A (some p) (.optr e b 0 0)) d (.tuple []))[i]?=(F3 (F3 A (some p) (.fptr v 0)) d (.tuple []))[i]?:=by
    cases d with
    | none=>simp only [F3];rw [D0H (fun h=>hi h.symm),D0H (fun h=>hi h.symm)]
    | some q =>
     simp only [F3,D0O,D0p]
     rw [if_neg (show ¬ p=i from fun h=>hi h.symm),if_neg (show ¬ p=i from fun h=>hi h.symm)]
   rw [←hsame] at hu
   obtain ⟨c,hc1,hc2⟩:=hA.at_ i u hu
   exact ⟨c,hc1,he.rep hc2⟩
 ·have hc:c≠b:=fun h=>by rw [h,hb] at hz;cases hz
  obtain ⟨ds,hd'⟩:=hS c z (by rw [hne c hc];exact hz)
  exact ⟨ds,hd'.evo he rfl⟩
def B2I (d:Option Tmp) (p:Tmp):Bool:=match d with | some q=>!Nat.beq q p | none=>true
def B3Z (y:Operand) (p:Tmp):Bool:=match y with | .tmp q=>!Nat.beq q p | _=>true
theorem B5e {d:Option Tmp} {p:Tmp} (h:B2I d p=true):d≠some p:=fun e=>by subst e;simp [B2I] at h
theorem B1o {y:Operand} {p:Tmp} (h:B3Z y p=true):y≠.tmp p:=fun e=>by subst e;simp [B3Z] at h
def A8d (T:C7) (p:Tmp) (t u:TypeId) (y:Operand) (d:Option Tmp) (A:List AV) (st:St) (k:KA):Prop :=
 match T t,T u with
 | some r,some q=>evK A y fun v=>match Nat.blt p A.length&&B2I d p&&Nat.blt 0 q.size&&Nat.beq (A2 (H4 r.zero)).length q.size&&(A2 (H4 r.zero)).all AV.one&&Nat.beq (A2 v).length q.size&&(A2 v).all AV.one&&B3Z y p with
   | true=>B0h A p (.fptr v 0) fun A'=>U6 A' d (.tuple []) fun A''=>k A'' st
   | false=>False
 | _,_=>False
theorem B0f {v:AV} {cs:List AV} (h:cs.length=(A2 v).length) (h1:cs.all AV.one=true) (h2:0<cs.length):A2 (I5 v 0 cs)=cs:=by
 rw [A3b (by omega) h1 h2]
 simp [h]
theorem A3h {P:Program} {T:C7} {M:E7} {frz:List Nat} {o1 o2:Oper} {p:Tmp} {t u:TypeId} {y:Operand} (hp:A2Z frz o1 o2=some (p,t,u,y)) {A:List AV} {st:St} {k:KA} (h:A8d T p t u y o2.dst A st k) :
  o1.guard=none∧o2.guard=none∧aOp P T M o1 A st fun v st'=>aOp P T M o2 (F3 A o1.dst v) st' fun v' st''=>A2B k (F3 (F3 A o1.dst v) o2.dst v') st'':=by
 unfold A2Z at hp
 split at hp
 case h_2=>cases hp
 rename_i hg1 hg2
 split at hp
 case h_2=>cases hp
 rename_i t' p' u' q' y' ho1 hd1 ho2
 split at hp
 case h_2=>cases hp
 rename_i hb
 cases hp
 simp only [C9l] at hb
 obtain rfl:=D1y hb.1
 refine ⟨hg1,hg2,?_⟩
 unfold A8d at h
 split at h
 case h_2=>exact h.elim
 rename_i r q hr hq
 rw [A1T] at h
 split at h
 case h_2=>exact h.elim
 rename_i hb
 simp only [C9l,D1s,Nat.beq_eq] at hb
 obtain ⟨⟨⟨⟨⟨⟨⟨hlt,hd⟩,hq0⟩,hz1⟩,hz2⟩,hv1⟩,hv2⟩,hy⟩:=hb
 have hd:=B5e hd
 have hy:=B1o hy
 rw [A4S,K7] at h
 have hk:=h
 unfold aOp
 rw [ho1,ho2,hd1]
 simp only [hr,hq]
 refine ⟨by omega,hz2,.inr fun b hb=>⟨hq0,?_⟩⟩
 have hevp:ev (F3 A (some p) (.optr (A2 (H4 r.zero)).length b 0 0)) (.tmp p)=.optr (A2 (H4 r.zero)).length b 0 0:=by
  simp [ev,F3,hlt]
 have hevy:ev (F3 A (some p) (.optr (A2 (H4 r.zero)).length b 0 0)) y=ev A y:=B2p fun t ht hyt=>by
  cases ht;exact hy hyt
 unfold A3R
 simp only [hq,hevp,hevy]
 have hst:upd st b ⟨t,(A2 (H4 r.zero)).length,1,fun _=>H4 r.zero⟩ b=some ⟨t,(A2 (H4 r.zero)).length,1,fun _=>H4 r.zero⟩:=by simp [upd]
 rw [hst]
 refine ⟨rfl,Nat.one_pos,hv1,hv2,by simp only;omega,_,_,B9k hb Nat.one_pos ?_ hlt hd,hk⟩
 simp only [G8,if_true]
 exact B0f (by omega) hv2 (by omega)
def A5a (frz:List Nat) (o om o2:Oper):Option (Tmp×Operand×Tmp×TypeId×TypeId×Operand) :=
 match om.guard,om.op,om.dst,A2Z frz o o2 with
 | none,.assign x,some m,some (p,t,u,y)=>(match !Nat.beq m p&&B3Z x p with | true=>some (m,x,p,t,u,y) | false=>none)
 | _,_,_,_=>none
def A6I (T:C7) (m:Tmp) (x:Operand) (p:Tmp) (t u:TypeId) (y:Operand) (d:Option Tmp) (A:List AV) (st:St) (k:KA):Prop :=
 evK A x fun v=>B0h A m v fun A1=>A8d T p t u y d A1 st k
theorem A8h {P:Program} {T:C7} {M:E7} {o:Oper} {t:TypeId} (ho:o.op=.alloc t) {A B:List AV} {st:St} {k:KK} (h:aOp P T M o A st k):aOp P T M o B st k:=by
 unfold aOp at *
 rw [ho] at h ⊢
 exact h
theorem A8t {P:Program} {T:C7} {M:E7} {frz:List Nat} {o1 om o2:Oper} {m p:Tmp} {x:Operand} {t u:TypeId} {y:Operand} (hp:A5a frz o1 om o2=some (m,x,p,t,u,y)) {A:List AV} {st:St} {k:KA} (h:A6I T m x p t u y o2.dst A st k) :
  o1.guard=none∧om.guard=none∧o2.guard=none∧aOp P T M o1 A st fun v st'=>aOp P T M om (F3 A o1.dst v) st' fun v1 st1=>aOp P T M o2 (F3 (F3 A o1.dst v) om.dst v1) st1 fun v' st''=>A2B k (F3 (F3 (F3 A o1.dst v) om.dst v1) o2.dst v') st'':=by
 unfold A5a at hp
 split at hp
 case h_2=>cases hp
 rename_i x' m' p' t' u' y' hg hop hdst hpr
 split at hp
 case h_2=>cases hp
 rename_i hb
 cases hp
 simp only [C9l,C9F] at hb
 have hmp:m≠p:=fun e=>by subst e;simp at hb
 have hxp:x≠.tmp p:=B1o hb.2
 unfold A6I at h
 rw [A1T,A4S] at h
 obtain ⟨g1,g2,h1⟩:=A3h (P:=P) (M:=M) hpr h
 have hal:∃ t0,o1.op=.alloc t0∧o1.dst=some p:=by
  unfold A2Z at hpr
  split at hpr
  case h_2=>cases hpr
  split at hpr
  case h_2=>cases hpr
  rename_i t0 p0 u0 q0 y0 ho1 hd1 ho2
  split at hpr
  case h_2=>cases hpr
  cases hpr
  exact ⟨_,ho1,hd1⟩
 obtain ⟨t0,ho1,hd1⟩:=hal
 refine ⟨g1,hg,g2,J5 (fun v st' h2=>?_) (A8h (B:=A) ho1 h1)⟩
 have e1:ev (F3 A (some p) v) x=ev A x:=B2p fun t ht hx=>by cases ht;exact hxp hx
 have e2:F3 (F3 A (some p) v) (some m) (ev A x)=F3 (A.set m (ev A x)) (some p) v:=by
  have:=A3u A (x:=some p) (y:=some m) v (ev A x) (fun d hd e=>by cases hd;cases e;exact hmp rfl)
  exact this
 rw [hd1] at h2 ⊢
 rw [hdst]
 unfold aOp
 rw [hop]
 simp only [e1,e2]
 exact h2
def B6h (P:Program) (T:C7) (M:E7) (frz:List Nat) (ops:List Oper):List Oper→List AV→St→KA→Prop
 | [],A,st,k=>k A st
 | o::rest,A,st,k=>match (match rest with | [o2]=>A2Z frz o o2 | _=>none) with
  | some (p,t,u,y)=>(match rest with | [o2]=>A8d T p t u y o2.dst A st k | _=>False)
  | none=>match (match rest with | [om,o2]=>A5a frz o om o2 | _=>none) with
  | some (m,x,p,t,u,y)=>(match rest with | [_,o2]=>A6I T m x p t u y o2.dst A st k | _=>False)
  | none=>A3j ops o A
   (xOp P T M (inF frz o.dst) o.op A st fun v st'=>U6 A o.dst v fun A'=>B6h P T M frz ops rest A' st' k)
   (U6 A o.dst (.tuple []) fun A'=>B6h P T M frz ops rest A' st k)
theorem A1m {P:Program} {T:C7} {M:E7} {ops:List Oper} {o:Oper} {rest:List Oper} {A:List AV} {st:St} {k:KA} (hg:o.guard=none) (h:aOp P T M o A st fun v st'=>A5f P T M ops rest (F3 A o.dst v) st' k):A5f P T M ops (o::rest) A st k:=by
 unfold A5f R5
 rw [hg]
 exact ⟨fun _=>h,fun e=>by cases e⟩
theorem A6H {P:Program} {T:C7} {M:E7} {frz:List Nat} {ops:List Oper}:∀ (l:List Oper) (A:List AV) (st:St) (k:KA),B6h P T M frz ops l A st k→A5f P T M ops l A st (A2B k)
 | [],A,st,k,h=>⟨A,st,A2O.refl A st,h⟩
 | o::rest,A,st,k,h=>by
  unfold B6h at h
  split at h
  ·rename_i p t u y hp
   split at hp
   ·rename_i o2
    obtain ⟨g1,g2,h1⟩:=A3h (P:=P) (M:=M) hp h
    exact A1m g1 (J5 (fun v st' h2=>A1m g2 h2) h1)
   ·cases hp
  ·split at h
   ·rename_i m x p t u y hp
    split at hp
    ·rename_i om o2
     obtain ⟨g1,g2,g3,h1⟩:=A8t (P:=P) (M:=M) hp h
     exact A1m g1 (J5 (fun v st' h2=>A1m g2 (J5 (fun v1 st1 h3=>A1m g3 h3) h2)) h1)
    ·cases hp
   obtain ⟨b,hb,h1,h2⟩:=A1D h
   unfold A5f
   rw [hb]
   refine ⟨fun e=>J5 (fun v st' hk=>?_) (A0H (h1 e)),fun e=>?_⟩
   ·rw [K7] at hk;exact A6H rest _ _ _ hk
   ·have:=h2 e;rw [K7] at this;exact A6H rest _ _ _ this
def A7g (op:Op):Bool:=S5 op||(match op with | .load ..=>true | _=>false)
theorem B1t {r:B5} {cs:List AV} {i:Nat} {k:AV→Prop} (h:pick r cs i k):∃ v,(pick r cs i fun v'=>v'=v)∧k v:=by
 unfold pick at *
 split at h
 ·exact ⟨_,⟨h.1,rfl⟩,h.2⟩
 ·split at h
  ·exact ⟨_,rfl,h⟩
  ·exact h.elim
theorem A9y {P:Program} {T:C7} {M:E7} {o:Oper} (hd:A7g o.op=true) {A:List AV} {st:St} {k:KK} (h:aOp P T M o A st k):∃ v,(aOp P T M o A st fun v' s=>v'=v∧s=st)∧k v st:=by
 unfold aOp at *
 split at h
 all_goals repeat' first
  | exact h.elim
  | exact ⟨_,⟨rfl,rfl⟩,h⟩
  | exact ⟨_,⟨h.1,rfl,rfl⟩,h.2⟩
  | exact ⟨_,⟨h.1,h.2.1,rfl,rfl⟩,h.2.2⟩
  | exact ⟨_,⟨h.1,h.2.1,h.2.2.1,rfl,rfl⟩,h.2.2.2⟩
  | exact ⟨_,⟨h.1,h.2.1,h.2.2.1,h.2.2.2.1,rfl,rfl⟩,h.2.2.2.2⟩
  | (obtain ⟨v,h1,h2⟩:=B1t h;exact ⟨v,A1u (fun v' e=>⟨e,rfl⟩) h1,h2⟩)
  | (obtain ⟨v,h1,h2⟩:=B1t h.2.2;exact ⟨v,⟨h.1,h.2.1,A1u (fun v' e=>⟨e,rfl⟩) h1⟩,h2⟩)
  | (obtain ⟨h0,h⟩:=h;split at h<;>first | exact h.elim | exact ⟨_,⟨h0,rfl,rfl⟩,h⟩)
  | (rename_i b hb;cases b;exact ⟨_,⟨(fun e=>by cases e),fun _=>⟨rfl,rfl⟩⟩,h.2 rfl⟩;exact ⟨_,⟨fun _=>⟨rfl,rfl⟩,fun e=>by cases e⟩,h.1 rfl⟩)
  | split at h
  | unfold A0n at h ⊢ | unfold A3O at h ⊢ | unfold A5h at h ⊢ | unfold R9 at h ⊢ | unfold A3P at h ⊢ | unfold V1 at h ⊢ | unfold A3Q at h ⊢ | unfold A1l at h ⊢ | unfold W8 at h ⊢
  | (exfalso;clear h;simp_all [A7g,S5];done)
def A8s (P:Program) (T:C7) (M:E7) (frz:List Nat) (ops:List Oper) (eff ext:List Nat):List Nat→List AV→St→KA→Prop
 | [],A,st,k=>k A st
 | i::ord,A,st,k=>match ops[i]? with
  | none=>False
  | some o=>match (match ord with | [j]=>(match ops[j]? with | some o2=>(match eff.contains i&&eff.contains j with | true=>A2Z frz o o2 | false=>none) | none=>none) | _=>none) with
   | some (p,t,u,y)=>(match ord with | [j]=>(match ops[j]? with | some o2=>A8d T p t u y o2.dst A st k | none=>False) | _=>False)
   | none=>A3j ops o A
    (match eff.contains i with
     | true=>xOp P T M (inF frz o.dst) o.op A st fun v st'=>U6 A o.dst v fun A'=>A8s P T M frz ops eff ext ord A' st' k
     | false=>match ext.contains i with
      | true=>∃ v,(∀ st',Ext st st'→xOp P T M (inF frz o.dst) o.op A st' fun v' st''=>v'=v∧st''=st')∧U6 A o.dst v fun A'=>A8s P T M frz ops eff ext ord A' st k
      | false=>match A7g o.op with
       | true=>xOp P T M (inF frz o.dst) o.op A st fun v _=>U6 A o.dst v fun A'=>A8s P T M frz ops eff ext ord A' st k
       | false=>∃ v,(xOp P T M (inF frz o.dst) o.op A st fun v' st''=>v'=v∧st''=st)∧U6 A o.dst v fun A'=>A8s P T M frz ops eff ext ord A' st k)
    (U6 A o.dst (.tuple []) fun A'=>A8s P T M frz ops eff ext ord A' st k)
theorem A3x {P:Program} {T:C7} {M:E7} {frz:List Nat} {ops:List Oper} {eff ext:List Nat}:∀ (ord:List Nat) (A:List AV) (st:St) (k:KA),A8s P T M frz ops eff ext ord A st k→A6Z P T M ops eff ext ord A st (A2B k)
 | [],A,st,k,h=>⟨A,st,A2O.refl A st,h⟩
 | i::ord,A,st,k,h=>by
  unfold A8s at h
  cases ho:ops[i]? with
  | none=>rw [ho] at h;exact h.elim
  | some o =>
   rw [ho] at h
   simp only at h
   split at h
   ·rename_i p t u y hp
    split at hp
    ·rename_i j
     split at hp
     ·rename_i o2 ho2
      split at hp
      ·rename_i hee
       simp only [C9l] at hee
       simp only [ho2] at h
       obtain ⟨g1,g2,h1⟩:=A3h (P:=P) (M:=M) hp h
       unfold A6Z
       rw [ho]
       have w1:R5 ops o A=some true:=by unfold R5;rw [g1]
       simp only [w1]
       refine ⟨fun _=>?_,fun e=>by cases e⟩
       rw [hee.1]
       refine J5 (fun v st' h2=>?_) h1
       unfold A6Z
       rw [ho2]
       have w2:R5 ops o2 (F3 A o.dst v)=some true:=by unfold R5;rw [g2]
       simp only [w2]
       refine ⟨fun _=>?_,fun e=>by cases e⟩
       rw [hee.2]
       exact J5 (fun v' st'' h3=>h3) h2
      ·cases hp
     ·cases hp
    ·cases hp
   ·unfold A6Z
    rw [ho]
    simp only
    obtain ⟨b,hb,h1,h2⟩:=A1D h
    rw [hb]
    simp only
    refine ⟨fun e=>?_,fun e=>?_⟩
    ·have h1:=h1 e
     split at h1
     ·rename_i hc
      rw [hc]
      exact J5 (fun v st' hk=>by rw [K7] at hk;exact A3x ord _ _ _ hk) (A0H h1)
     ·rename_i hc
      rw [hc]
      simp only
      split at h1
      ·rename_i hx
       rw [hx]
       obtain ⟨v,hv,hk⟩:=h1
       rw [K7] at hk
       exact ⟨v,fun st' hs=>A0H (hv st' hs),A3x ord _ _ _ hk⟩
      ·rename_i hx
       rw [hx]
       simp only
       split at h1
       ·rename_i hdet
        obtain ⟨v,hv,hk⟩:=A9y hdet (A0H h1)
        rw [K7] at hk
        exact ⟨v,hv,A3x ord _ _ _ hk⟩
       ·obtain ⟨v,hv,hk⟩:=h1
        rw [K7] at hk
        exact ⟨v,A0H hv,A3x ord _ _ _ hk⟩
    ·have:=h2 e
     rw [K7] at this
     exact A3x ord _ _ _ this
def B1X (P:Program) (T:C7) (M:E7) (frz:List Nat) (ops:List Oper) (i:Nat) (K:KA) (A:List AV) (st:St):Prop :=
 match ops[i]? with
 | none=>False
 | some o=>A3j ops o A (xOp P T M (inF frz o.dst) o.op A st fun v st'=>U6 A o.dst v fun A'=>K A' st') (U6 A o.dst (.tuple []) fun A'=>K A' st)
def C0m (P:Program) (T:C7) (M:E7) (frz:List Nat) (ops:List Oper) (i:Nat) (K:KA) (A:List AV) (st:St):Prop :=
 match ops[i]? with
 | none=>False
 | some o=>A3j ops o A
  (match A7g o.op with
   | true=>xOp P T M (inF frz o.dst) o.op A st fun v _=>U6 A o.dst v fun A'=>K A' st
   | false=>∃ v,(xOp P T M (inF frz o.dst) o.op A st fun v' st''=>v'=v∧st''=st)∧U6 A o.dst v fun A'=>K A' st)
  (U6 A o.dst (.tuple []) fun A'=>K A' st)
def A3L (P:Program) (T:C7) (M:E7) (frz:List Nat) (ops:List Oper):OT→List AV→St→KA→Prop
 | .done,A,st,k=>k A st
 | .gen i t,A,st,k=>B1X P T M frz ops i (fun A' st'=>A3L P T M frz ops t A' st' k) A st
 | .qui i t,A,st,k=>C0m P T M frz ops i (fun A' st'=>A3L P T M frz ops t A' st' k) A st
 | .two i j t u,A,st,k=>B1X P T M frz ops i (fun A' st'=>A3L P T M frz ops t A' st' k) A st∧B1X P T M frz ops j (fun A' st'=>A3L P T M frz ops u A' st' k) A st
theorem B0B {P:Program} {T:C7} {M:E7} {frz:List Nat} {ops:List Oper} {i:Nat} {K K':KA} {A:List AV} {st:St} (hK:∀ A st,K A st→K' A st) (h:B1X P T M frz ops i K A st):B2l P T M ops i K' A st:=by
 unfold B1X at h
 unfold B2l
 cases ho:ops[i]? with
 | none=>rw [ho] at h;exact h.elim
 | some o =>
  rw [ho] at h
  simp only at h ⊢
  obtain ⟨b,hb,h1,h2⟩:=A1D h
  rw [hb]
  refine ⟨fun e=>?_,fun e=>?_⟩
  ·exact J5 (fun v st' hk=>by rw [K7] at hk;exact hK _ _ hk) (A0H (h1 e))
  ·have:=h2 e
   rw [K7] at this;exact hK _ _ this
theorem C0n {P:Program} {T:C7} {M:E7} {frz:List Nat} {ops:List Oper} {i:Nat} {K K':KA} {A:List AV} {st:St} (hK:∀ A st,K A st→K' A st) (h:C0m P T M frz ops i K A st):B9c P T M ops i K' A st:=by
 unfold C0m at h
 unfold B9c
 cases ho:ops[i]? with
 | none=>rw [ho] at h;exact h.elim
 | some o =>
  rw [ho] at h
  simp only at h ⊢
  obtain ⟨b,hb,h1,h2⟩:=A1D h
  rw [hb]
  refine ⟨fun e=>?_,fun e=>?_⟩
  ·have h1:=h1 e
   split at h1
   ·rename_i hdet
    obtain ⟨v,hv,hk⟩:=A9y hdet (A0H h1)
    rw [K7] at hk
    exact ⟨v,hv,hK _ _ hk⟩
   ·obtain ⟨v,hv,hk⟩:=h1
    rw [K7] at hk
    exact ⟨v,A0H hv,hK _ _ hk⟩
  ·have:=h2 e
   rw [K7] at this;exact hK _ _ this
theorem A3i {P:Program} {T:C7} {M:E7} {frz:List Nat} {ops:List Oper}:∀ (t:OT) (A:List AV) (st:St) (k:KA),A3L P T M frz ops t A st k→A4C P T M ops t A st (A2B k)
 | .done,A,st,k,h=>⟨A,st,A2O.refl A st,h⟩
 | .gen i t,A,st,k,h=>B0B (fun A st h=>A3i t A st k h) h
 | .qui i t,A,st,k,h=>C0n (fun A st h=>A3i t A st k h) h
 | .two i j t u,A,st,k,h=>⟨B0B (fun A st h=>A3i t A st k h) h.1,B0B (fun A st h=>A3i u A st k h) h.2⟩
def xDr (P:Program) (T:C7) (M:E7) (frz:List Nat) (ops:List Oper) (A:List AV) (st:St) (k:KA):Prop :=
 ∃ eff ext ord:List Nat,match ord with
  | []=>∃ t:OT,(Region.noSelect ops.toArray&&okT ops.toArray eff t ops.length (Array.replicate ops.length false))=true∧A3L P T M frz ops t A st k
  | _::_=>(Region.noSelect ops.toArray&&A7s ops.toArray eff ext ord (Array.replicate ops.length false)&&(ord.length==ops.length))=true∧A8s P T M frz ops eff ext ord A st k
theorem B8C {P:Program} {T:C7} {M:E7} {frz:List Nat} {ops:List Oper} {A:List AV} {st:St} {k:KA} (h:xDr P T M frz ops A st k):Dr P T M ops A st (A2B k):=by
 obtain ⟨eff,ext,ord,h⟩:=h
 refine ⟨eff,ext,ord,?_⟩
 split at h
 ·obtain ⟨t,h1,h2⟩:=h
  exact ⟨t,h1,A3i t _ _ _ h2⟩
 ·exact ⟨h.1,A3x _ _ _ _ h.2⟩
def A7G:Nat→(List AV→Prop)→Prop
 | 0,k=>k []
 | n+1,k=>A7G n fun A=>k (.junk::A)
theorem A7H:∀ (n:Nat) (k:List AV→Prop),A7G n k=k (List.replicate n .junk)
 | 0,k=>rfl
 | n+1,k=>by rw [A7G,A7H n];rfl
def A4T:List Nat→List AV→List AV→(List AV→Prop)→Prop
 | i::is,v::vs,A,k=>B0h A i v fun A'=>A4T is vs A' k
 | _,_,A,k=>k A
theorem A7K:∀ (is:List Nat) (vs A:List AV) (k:List AV→Prop),A4T is vs A k=k ((is.zip vs).foldl (fun A p=>A.set p.1 p.2) A)
 | [],vs,A,k=>by simp [A4T]
 | i::is,[],A,k=>by simp [A4T]
 | i::is,v::vs,A,k=>by simp only [A4T,A4S,A7K is vs,List.zip_cons_cons,D0E]
def A0Q (A:List AV):List Nat→(List AV→Prop)→Prop
 | [],k=>k []
 | i::is,k=>A6o A i fun v=>A0Q A is fun vs=>k (v::vs)
theorem X3 (A:List AV):∀ (is:List Nat) (k:List AV→Prop),A0Q A is k=k (is.map fun i=>A.getD i AV.junk)
 | [],k=>rfl
 | i::is,k=>by simp only [A0Q,A1X,X3 A is,D0j]
def B8D (T:C7) (A:List AV) (st:St) (r:ResultVar) (k:AV→Prop):Prop :=
 match r with
 | .tmp t=>A6o A t k
 | .cell t ty=>A6o A t fun p=>B1Y T ty p st (fun v _=>k v)
def B1Z (T:C7) (A:List AV) (st:St):List ResultVar→(List AV→Prop)→Prop
 | [],k=>k []
 | r::rs,k=>B8D T A st r fun v=>B1Z T A st rs fun vs=>k (v::vs)
theorem A8f {T:C7} {A:List AV} {st:St}:∀ (rs:List ResultVar) (k:List AV→Prop),B1Z T A st rs k→A5P T A st rs k
 | [],k,h=>h
 | r::rs,k,h=>by
  simp only [B1Z] at h
  simp only [A5P]
  cases r with
  | tmp t=>simp only [B8D,B0K,A1X] at h ⊢;exact A8f rs _ h
  | cell t ty=>simp only [B8D,B0K,A1X] at h ⊢;exact A1I (fun v hv=>A8f rs _ hv) (A8c h)
def B6d (T:C7) (rs:List ResultVar) (post:KK):Exit→KA:=fun e A st=>match e with
 | .normal=>B1Z T A st rs fun vs=>post (A7u vs) st
 | .ret=>B1Z T A st rs fun vs=>post (A7u vs) st
 | _=>False
def C0i:Nat→(List AV→Prop)→Prop
 | 0,k=>k []
 | n+1,k=>C0i n fun A=>k (.tuple []::A)
theorem B4u:∀ (n:Nat) (k:List AV→Prop),C0i n k=k (List.replicate n (.tuple []))
 | 0,k=>rfl
 | n+1,k=>by rw [C0i,B4u n];rfl
def A1i:List AV→Nat→(List AV→Prop)→Prop
 | [],n,k=>C0i n k
 | v::vs,n,k=>A1i vs (n - 1) fun A=>k (v::A)
theorem A9c:∀ (args:List AV) (n:Nat) (k:List AV→Prop),A1i args n k=k (start args n)
 | [],n,k=>by rw [A1i,B4u];simp [start]
 | v::vs,n,k=>by
  rw [A1i,A9c vs (n - 1)]
  unfold start
  simp only [C9G,D1h]
  rw [show n - 1 - vs.length=n - (vs.length+1) from by omega]
noncomputable def B8G (P:Program) (T:C7) (M:E7) (frz:List Nat) (ops:List Oper) (l:List Oper):List AV→St→KA→Prop :=
 List.rec (motive:=fun _=>List AV→St→KA→Prop) (fun A st k=>k A st)
  (fun o rest ih A st k=>match (match rest with | [o2]=>A2Z frz o o2 | _=>none) with
   | some (p,t,u,y)=>(match rest with | [o2]=>A8d T p t u y o2.dst A st k | _=>False)
   | none=>match (match rest with | [om,o2]=>A5a frz o om o2 | _=>none) with
   | some (m,x,p,t,u,y)=>(match rest with | [_,o2]=>A6I T m x p t u y o2.dst A st k | _=>False)
   | none=>A3j ops o A
    (xOp P T M (inF frz o.dst) o.op A st fun v st'=>U6 A o.dst v fun A'=>ih A' st' k)
    (U6 A o.dst (.tuple []) fun A'=>ih A' st k)) l
theorem B0D {P:Program} {T:C7} {M:E7} {frz:List Nat} {ops:List Oper}:∀ l,B8G P T M frz ops l=B6h P T M frz ops l
 | []=>rfl
 | o::rest=>by
  funext A st k
  conv=>rhs;unfold B6h
  rw [←B0D rest]
  rfl
noncomputable def C6f (P:Program) (T:C7) (M:E7) (frz:List Nat) (ops:List Oper) (eff ext:List Nat) (ord:List Nat):List AV→St→KA→Prop :=
 List.rec (motive:=fun _=>List AV→St→KA→Prop) (fun A st k=>k A st)
  (fun i ord ih A st k=>match ops[i]? with
   | none=>False
   | some o=>match (match ord with | [j]=>(match ops[j]? with | some o2=>(match eff.contains i&&eff.contains j with | true=>A2Z frz o o2 | false=>none) | none=>none) | _=>none) with
    | some (p,t,u,y)=>(match ord with | [j]=>(match ops[j]? with | some o2=>A8d T p t u y o2.dst A st k | none=>False) | _=>False)
    | none=>A3j ops o A
     (match eff.contains i with
      | true=>xOp P T M (inF frz o.dst) o.op A st fun v st'=>U6 A o.dst v fun A'=>ih A' st' k
      | false=>match ext.contains i with
       | true=>∃ v,(∀ st',Ext st st'→xOp P T M (inF frz o.dst) o.op A st' fun v' st''=>v'=v∧st''=st')∧U6 A o.dst v fun A'=>ih A' st k
       | false=>match A7g o.op with
        | true=>xOp P T M (inF frz o.dst) o.op A st fun v _=>U6 A o.dst v fun A'=>ih A' st k
        | false=>∃ v,(xOp P T M (inF frz o.dst) o.op A st fun v' st''=>v'=v∧st''=st)∧U6 A o.dst v fun A'=>ih A' st k)
     (U6 A o.dst (.tuple []) fun A'=>ih A' st k)) ord
theorem B4A {P:Program} {T:C7} {M:E7} {frz:List Nat} {ops:List Oper} {eff ext:List Nat}:∀ l,C6f P T M frz ops eff ext l=A8s P T M frz ops eff ext l
 | []=>rfl
 | i::ord=>by
  funext A st k
  conv=>rhs;unfold A8s
  rw [←B4A ord]
  rfl
noncomputable def C0C (P:Program) (T:C7) (M:E7) (frz:List Nat) (ops:List Oper) (t:OT):List AV→St→KA→Prop :=
 OT.rec (motive:=fun _=>List AV→St→KA→Prop) (fun A st k=>k A st)
  (fun i _ ih A st k=>B1X P T M frz ops i (fun A' st'=>ih A' st' k) A st)
  (fun i _ ih A st k=>C0m P T M frz ops i (fun A' st'=>ih A' st' k) A st)
  (fun i j _ _ iht ihu A st k=>B1X P T M frz ops i (fun A' st'=>iht A' st' k) A st∧B1X P T M frz ops j (fun A' st'=>ihu A' st' k) A st) t
theorem A3l {P:Program} {T:C7} {M:E7} {frz:List Nat} {ops:List Oper}:∀ t,C0C P T M frz ops t=A3L P T M frz ops t
 | .done=>rfl
 | .gen i t=>by
  funext A st k
  conv=>rhs;unfold A3L
  rw [←A3l t];rfl
 | .qui i t=>by
  funext A st k
  conv=>rhs;unfold A3L
  rw [←A3l t];rfl
 | .two i j t u=>by
  funext A st k
  conv=>rhs;unfold A3L
  rw [←A3l t,←A3l u];rfl
noncomputable def yDr (P:Program) (T:C7) (M:E7) (frz:List Nat) (ops:List Oper) (A:List AV) (st:St) (k:KA):Prop :=
 ∃ eff ext ord:List Nat,match ord with
  | []=>∃ t:OT,(Region.noSelect ops.toArray&&okT ops.toArray eff t ops.length (Array.replicate ops.length false))=true∧C0C P T M frz ops t A st k
  | _::_=>(Region.noSelect ops.toArray&&A7s ops.toArray eff ext ord (Array.replicate ops.length false)&&(ord.length==ops.length))=true∧C6f P T M frz ops eff ext ord A st k
theorem B8F {P:Program} {T:C7} {M:E7} {frz:List Nat} {ops:List Oper} {A:List AV} {st:St} {k:KA}:yDr P T M frz ops A st k=xDr P T M frz ops A st k:=by
 unfold yDr xDr
 simp only [B4A,A3l]
theorem A0 (st:St) (b:Nat) (x:H1):upd st b x b=some x:=by simp [upd]
theorem A5 {st:St} {b c:Nat} {x:H1} (h:c≠b):upd st b x c=st c:=by simp [upd,h]
theorem B1T {st:St} {b c:Nat} {x:H1} (h:upd st b x c=none):c≠b∧st c=none:=by
 unfold upd at h
 split at h
 ·cases h
 ·rename_i e;exact ⟨e,h⟩
theorem A3q {st:St} {b:Nat} (h:st b=none) (x:H1):del (upd st b x) b=st:=funext fun c=>by
 unfold del upd
 split
 ·rename_i e;rw [e,h]
 ·rfl
theorem call {P:Program} {f:FuncId} {args:List AV} {st:St} {post k:KK} (h:S P f args st post) (hk:∀ v st',post v st'→k v st'):U8 P f args st k:=by
 refine ⟨?_⟩;unfold A0m;exact ⟨args,st,A4.refl _ _,h.mono hk⟩
theorem B6 {P:Program} {f:FuncId} {args:List AV} {st:St} {v:AV} {k:KK} (h:S P f args st fun v' st'=>v'=v∧st'=st) (hk:k v st):U8 P f args st k :=
 call h fun v' st' ⟨e1,e2⟩=>by rw [e1,e2];exact hk
theorem D3 {P:Program} {f:FuncId} {args args':List AV} {st st':St} {k:KK} (hs:A4 args st args' st') (h:U8 P f args' st' k):U8 P f args st k:=by
 refine ⟨?_⟩
 have h:=h.out
 unfold A0m at *
 obtain ⟨a,s,h1,h2⟩:=h
 exact ⟨a,s,hs.trans h1,h2⟩
end Go.Ab
