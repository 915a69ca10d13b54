/- Part 11 of the proof: contracts of the functions that the law reaches -/
import Derived.Test.YtaapofnkmpiknaaGreatRt10
set_option linter.unusedVariables false
set_option linter.unusedSimpArgs false
namespace Go.Ab
open Go
def B1e:List AV→Nat→(AV→Prop)→Prop
 | [],_,k=>k .junk
 | a::_,0,k=>k a
 | _::xs,n+1,k=>B1e xs n k
def B4U:List AV→Nat→AV→(List AV→Prop)→Prop
 | [],_,_,k=>k []
 | _::xs,0,v,k=>k (v::xs)
 | a::xs,n+1,v,k=>B4U xs n v fun xs'=>k (a::xs')
def A1O (A:List AV) (d:Option Tmp) (v:AV) (k:List AV→Prop):Prop:=match d with | some i=>B4U A i v k | none=>k A
theorem A4X:∀ (A:List AV) (i:Nat) (k:AV→Prop),B1e A i k=k (A.getD i .junk)
 | [],_,k=>by simp [B1e]
 | a::xs,0,k=>by simp [B1e]
 | a::xs,n+1,k=>by rw [B1e,A4X xs n k];simp
theorem A8H:∀ (A:List AV) (i:Nat) (v:AV) (k:List AV→Prop),B4U A i v k=k (A.set i v)
 | [],_,v,k=>by simp [B4U]
 | a::xs,0,v,k=>by simp [B4U]
 | a::xs,n+1,v,k=>by rw [B4U,A8H xs n v];simp
theorem U4 (A:List AV) (d:Option Tmp) (v:AV) (k:List AV→Prop):A1O A d v k=k (K4 A d v):=by
 cases d with
 | none=>rfl
 | some i=>exact A8H A i v k
def C9h (v:Value) (k:AV→Prop):Prop :=
 match v with
 | .bool b=>k (.bool b)
 | .int kk n=>k (.int kk n)
 | .string s=>k (.str s)
 | .pointer a=>(match a with | none=>k .nilp | some _=>k .junk)
 | .slice a l c=>(match a with | none=>(match l,c with | 0,0=>k .emp | _,_=>k .junk) | some _=>k .junk)
 | .nilFunc=>k .nilf
 | .nilIface=>k .nili
 | v=>k (H2 v)
theorem C5S (v:Value) (k:AV→Prop):C9h v k=k (H2 v):=by
 cases v with
 | pointer a=>cases a<;>rfl
 | slice a l c=>cases a with
  | none=>cases l<;>cases c<;>rfl
  | some a=>rfl
 | _=>rfl
def evK (A:List AV) (x:Operand) (k:AV→Prop):Prop :=
 match x with
 | .tmp t=>B1e A t k
 | .const v=>C9h v k
 | .global _=>k .junk
 | .func f=>k (.fn (.func f) [] [])
theorem A4V (A:List AV) (x:Operand) (k:AV→Prop):evK A x k=k (ev A x):=by
 cases x with
 | tmp t=>exact A4X A t k
 | const v=>exact C5S v k
 | _=>rfl
def C0z (A:List AV):List Operand→(List AV→Prop)→Prop
 | [],k=>k []
 | x::xs,k=>evK A x fun v=>C0z A xs fun vs=>k (v::vs)
theorem B9l (A:List AV):∀ (xs:List Operand) (k:List AV→Prop),C0z A xs k=k (xs.map (ev A))
 | [],k=>rfl
 | x::xs,k=>by simp only [C0z,A4V,B9l A xs,D6I]
def C0y (A:List AV):List (Nat×Operand)→(List (Nat×AV)→Prop)→Prop
 | [],k=>k []
 | p::ps,k=>evK A p.2 fun v=>C0y A ps fun vs=>k ((p.1,v)::vs)
theorem B0o (A:List AV):∀ (ps:List (Nat×Operand)) (k:List (Nat×AV)→Prop),C0y A ps k=k (ps.map fun p=>(p.1,ev A p.2))
 | [],k=>rfl
 | p::ps,k=>by simp only [C0y,A4V,B0o A ps,D6I]
def C6a (A:List AV) (x:Option Operand) (k:Option AV→Prop):Prop:=match x with | none=>k none | some y=>evK A y fun v=>k (some v)
theorem C6b (A:List AV) (x:Option Operand) (k:Option AV→Prop):C6a A x k=k (x.map (ev A)):=by
 cases x with
 | none=>rfl
 | some y=>exact A4V A y _
def A5p (b:Bool) (x y:Prop):Prop:=match b with | true=>x | false=>y
theorem A0A (b:Bool) (x y:Prop):A5p b x y↔(b=true→x)∧(b=false→y):=by cases b<;>simp [A5p]
theorem B8 {b:Bool} {x y:Prop} (h1:b=true→x) (h2:b=false→y):A5p b x y:=by cases b;exact h2 rfl;exact h1 rfl
structure A1R (P:Program) (f:FuncId) (args:List AV) (st:St) (k:KK):Prop where
 out:A3i P f args st k
def C2u:List AV→List AV→(List AV→Prop)→Prop
 | [],b,k=>k b
 | v::a,b,k=>C2u a b fun l=>k (v::l)
theorem A4N:∀ (a b:List AV) (k:List AV→Prop),C2u a b k=k (a++b)
 | [],b,k=>rfl
 | v::a,b,k=>by rw [C2u,A4N a b];rfl
def C3l:List AV→Nat→(Nat→Prop)→Prop
 | [],n,k=>k n
 | _::l,n,k=>C3l l (n+1) k
theorem B9s:∀ (l:List AV) (n:Nat) (k:Nat→Prop),C3l l n k=k (n+l.length)
 | [],n,k=>by simp [C3l]
 | a::l,n,k=>by rw [C3l,B9s l];simp [D8k,Nat.add_comm 1]
def B6d:List AV→List AV→(List AV→Prop)→Prop
 | cs,[],k=>k cs
 | _::cs,v::new,k=>B6d cs new fun r=>k (v::r)
 | [],_::_,k=>k []
def A6U:List AV→Nat→List AV→(List AV→Prop)→Prop
 | cs,0,new,k=>B6d cs new k
 | a::cs,n+1,new,k=>A6U cs n new fun r=>k (a::r)
 | [],_+1,_,k=>k []
theorem B6e:∀ (cs new:List AV) (k:List AV→Prop),new.length≤cs.length→B6d cs new k=k (new++cs.drop new.length)
 | cs,[],k,_=>by simp [B6d]
 | c::cs,v::new,k,h=>by rw [B6d,B6e cs new _ (by simpa using h)];simp
 | [],v::new,k,h=>by simp at h
theorem A7H:∀ (cs:List AV) (n:Nat) (new:List AV) (k:List AV→Prop),n+new.length≤cs.length→A6U cs n new k=k (cs.take n++new++cs.drop (n+new.length))
 | cs,0,new,k,h=>by rw [A6U,B6e cs new k (by omega)];simp
 | a::cs,n+1,new,k,h=>by
  rw [A6U,A7H cs n new _ (by simp at h;omega)]
  simp [show n+1+new.length=(n+new.length)+1 from by omega]
 | [],n+1,new,k,h=>by simp at h
def B3S (place:Nat→Option (Nat×Nat)):List (Nat×AV)→List AV→(List AV→Prop)→Prop
 | [],cells,k=>k cells
 | (i,v)::rest,cells,k=>match place i with
  | none=>False
  | some (off,size)=>match Nat.beq (cellsOf v).length size&&Nat.ble (off+size) cells.length&&(cellsOf v).all AV.one&&Nat.blt 0 size with
   | true=>A6U cells off (cellsOf v) fun cells'=>B3S place rest cells' k
   | false=>False
theorem A8O {place:Nat→Option (Nat×Nat)}:∀ (ps:List (Nat×AV)) (cells:List AV) (k:List AV→Prop),B3S place ps cells k→∃ out,A5n place cells ps=some out∧k out
 | [],cells,k,h=>⟨cells,rfl,h⟩
 | (i,v)::ps,cells,k,h=>by
  unfold B3S at h
  unfold A5n
  split at h
  ·exact h.elim
  ·rename_i off size hp
   rw [hp]
   simp only
   split at h
   ·rename_i hb
    simp only [D5G,Nat.beq_eq,Nat.ble_eq,D8m] at hb
    obtain ⟨⟨⟨h1,h2⟩,h3⟩,h4⟩:=hb
    rw [A7H _ _ _ _ (by omega)] at h
    rw [if_neg (by simp only [not_or,Decidable.not_not,D7X];exact ⟨h1,by omega,h3,by omega⟩)]
    rw [h1] at h
    exact A8O ps _ k h
   ·exact h.elim
def B8P (T:G7) (t:TypeId) (ps:List (Nat×AV)) (k:AV→Prop):Prop :=
 match T t with
 | none=>False
 | some r=>match r.desc with
  | .struct fs=>match places T fs.toList with
   | none=>False
   | some pl=>B3S (fun i=>pl[i]?) ps (cellsOf (H2 r.zero)) fun out=>k (.agg out)
  | .array n el=>match T el with
   | none=>False
   | some q=>B3S (fun i=>some (i * q.size,q.size)) ps (cellsOf (H2 r.zero)) fun out=>k (.agg out)
  | _=>False
theorem C1U {T:G7} {t:TypeId} {ps:List (Nat×AV)} {k:AV→Prop} (h:B8P T t ps k):A7p T t ps k:=by
 unfold B8P at h
 unfold A7p
 split at h
 ·exact h.elim
 ·rename_i r hr
  rw [hr]
  simp only
  split at h
  ·rename_i fs hd
   rw [hd]
   simp only
   split at h
   ·exact h.elim
   ·rename_i pl hp
    rw [hp]
    simp only
    obtain ⟨out,h1,h2⟩:=A8O _ _ _ h
    rw [h1];exact h2
  ·rename_i n el hd
   rw [hd]
   simp only
   split at h
   ·exact h.elim
   ·rename_i q hq
    rw [hq]
    simp only
    obtain ⟨out,h1,h2⟩:=A8O _ _ _ h
    rw [h1];exact h2
  ·exact h.elim
def A6n:Nat→List AV→(List AV→List AV→Prop)→Prop
 | 0,l,k=>k [] l
 | n+1,v::l,k=>A6n n l fun a b=>k (v::a) b
 | _+1,[],k=>k [] []
theorem A9D:∀ (n:Nat) (l:List AV) (k:List AV→List AV→Prop),A6n n l k=k (l.take n) (l.drop n)
 | 0,l,k=>by simp [A6n]
 | n+1,v::l,k=>by rw [A6n,A9D n l];simp
 | n+1,[],k=>by simp [A6n]
def B1f (agg:Bool) (e:Nat):Nat→List AV→(List AV→Prop)→Prop
 | 0,_,k=>k []
 | n+1,out,k=>match agg with
  | true=>A6n e out fun a b=>B1f agg e n b fun r=>k (.agg a::r)
  | false=>match out with
   | v::b=>B1f agg e n b fun r=>k (v::r)
   | []=>False
theorem B5J (agg:Bool) (e n:Nat) (out:List AV) (he:agg=false→e=1):A1k agg e (n+1) out=(if agg then .agg (out.take e) else out.getD 0 .junk)::A1k agg e n (out.drop e):=by
 unfold A1k
 rw [List.range_succ_eq_map,D6I,D8a]
 congr 1
 ·cases agg<;>simp
 ·refine D6S fun i _=>?_
  cases agg with
  | true =>
   simp only [Function.comp,if_true]
   rw [List.drop_drop,show (i+1) * e=e+i * e from by rw [D7L];omega]
  | false =>
   have:=he rfl
   subst this
   simp
theorem A9f {agg:Bool} {e:Nat} (he:agg=false→e=1):∀ (n:Nat) (out:List AV) (k:List AV→Prop),B1f agg e n out k→k (A1k agg e n out)
 | 0,out,k,h=>h
 | n+1,out,k,h=>by
  unfold B1f at h
  rw [B5J agg e n out he]
  cases agg with
  | true =>
   simp only [A9D] at h
   exact A9f he n _ _ h
  | false =>
   simp only at h
   have:=he rfl
   subst this
   split at h
   ·rename_i v b;exact A9f he n _ _ h
   ·exact h.elim
def C6P (fz:Bool) (ty:TypeId) (v:AV) (st:St) (k:KK):Prop :=
 match Nat.blt 0 (cellsOf v).length&&(cellsOf v).all AV.one with
 | true=>(match fz with
  | true=>k (.fptr v 0) st
  | false=>C3l (cellsOf v) 0 fun n=>∀ b,st b=none→k (.optr n b 0 0) (upd st b ⟨ty,n,1,fun _=>v⟩))
 | false=>False
theorem B9Y {fz:Bool} {ty:TypeId} {v:AV} {st:St} {k:KK} (h:C6P fz ty v st k):B7n ty v st k:=by
 unfold C6P at h
 split at h
 ·rename_i hb
  simp only [D5G,D8m] at hb
  cases fz with
  | true=>exact ⟨hb.1,hb.2,.inl h⟩
  | false =>
   simp only [B9s,D5R] at h
   exact ⟨hb.1,hb.2,.inr h⟩
 ·exact h.elim
def C8L (fz:Bool) (T:G7) (t:TypeId) (len:Nat) (ps:List (Nat×AV)) (st:St) (k:KK):Prop :=
 match T t with
 | none=>False
 | some r=>match r.desc with
  | .slice el=>match T el with
   | none=>False
   | some q=>match Nat.blt 0 (len * q.size)&&Nat.ble (len * q.size) 16777216&&Nat.beq q.zero.cells.size q.size&&(q.agg||Nat.beq q.size 1) with
    | false=>False
    | true=>B3S (fun i=>some (i * q.size,q.size)) ps ((List.range (len * q.size)).map fun i=>(cellsOf (H2 q.zero)).getD (i % q.size) .junk) fun out=>match out.all AV.one with
    | false=>False
    | true=>B1f q.agg q.size len out fun els=>match fz with
     | false=>k (.arr q.size len (fun i=>els.getD i .junk)) st
     | true=>∀ b,st b=none→k (.own q.size b 0 len) (upd st b ⟨el,q.size,len,fun i=>els.getD i .junk⟩)
  | _=>False
theorem C6S {fz:Bool} {T:G7} {t:TypeId} {len:Nat} {ps:List (Nat×AV)} {st:St} {k:KK} (h:C8L fz T t len ps st k):A1u T t len ps st k:=by
 unfold C8L at h
 unfold A1u
 split at h
 ·exact h.elim
 ·rename_i r hr
  rw [hr]
  simp only
  split at h
  ·rename_i el hd
   rw [hd]
   simp only
   split at h
   ·exact h.elim
   ·rename_i q hq
    rw [hq]
    split at h
    ·exact h.elim
    rename_i hb
    simp only [D5G,D8m,Nat.ble_eq,Nat.beq_eq,D6H] at hb
    obtain ⟨⟨⟨h1,h2⟩,h3⟩,h4'⟩:=hb
    have h4:q.agg=false→q.size=1:=fun e=>h4'.resolve_left (by simp [e])
    refine ⟨h1,h2,h3,h4,?_⟩
    obtain ⟨out,ho,h⟩:=A8O _ _ _ h
    rw [ho]
    split at h
    ·exact h.elim
    rename_i hone
    have h:=A9f h4 _ _ _ h
    refine ⟨hone,?_⟩
    cases fz with
    | false=>exact .inl h
    | true=>exact .inr h
  ·exact h.elim
def C5E:List AV→Nat→(AV→Prop)→Prop
 | [],_,_=>False
 | a::_,0,k=>k a
 | _::xs,n+1,k=>C5E xs n k
theorem B9m:∀ (A:List AV) (i:Nat) (k:AV→Prop),C5E A i k→∃ y,A[i]?=some y∧k y
 | [],_,_,h=>h.elim
 | a::_,0,_,h=>⟨a,rfl,h⟩
 | _::xs,n+1,k,h=>by obtain ⟨y,h1,h2⟩:=B9m xs n k h;exact ⟨y,by simpa using h1,h2⟩
def A8P (r:C4) (cs:List AV) (o:Nat) (k:AV→Prop):Prop :=
 match r.agg with
 | true=>(match Nat.ble (o+r.size) cs.length with
  | true=>A6n o cs fun _ b=>A6n r.size b fun c _=>k (.agg c)
  | false=>False)
 | false=>C5E cs o k
theorem B2z {r:C4} {cs:List AV} {o:Nat} {k:AV→Prop} (h:A8P r cs o k):pick r cs o k:=by
 unfold A8P at h
 unfold pick
 split at h
 ·rename_i e
  rw [e]
  split at h
  ·rename_i hb
   simp only [A9D] at h
   exact ⟨by simpa using hb,h⟩
  ·exact h.elim
 ·rename_i e
  rw [e]
  obtain ⟨y,h1,h2⟩:=B9m _ _ _ h
  simp only
  rw [h1];exact h2
structure C1Y (T:G7) (t:TypeId) (e b i o:Nat) (st:St) (k:KK):Prop where
 out:A3j T t (.optr e b i o) st k
def B7d (T:G7) (t:TypeId) (v:AV) (st:St) (k:KK):Prop :=
 match v with
 | .fptr v o=>(match T t with | some r=>A8P r (cellsOf v) o (fun y=>k y st) | none=>False)
 | .optr e b i o=>C1Y T t e b i o st k
 | _=>False
theorem B2x {T:G7} {t:TypeId} {v:AV} {st:St} {k:KK} (h:B7d T t v st k):A3j T t v st k:=by
 unfold B7d at h
 split at h
 ·unfold A3j
  split at h
  ·rename_i hr;rw [hr];exact B2z h
  ·exact h.elim
 ·exact h.out
 ·exact h.elim
structure B7f (T:G7) (t:TypeId) (e b i o:Nat) (v:AV) (st:St) (k:KK):Prop where
 out:(match T t with | some r=>0<r.size | none=>False)∧A7s T t (.optr e b i o) v st k
def C4Q (T:G7) (t:TypeId) (p v:AV) (st:St) (k:KK):Prop:=match p with | .optr e b i o=>B7f T t e b i o v st k | _=>False
structure A5x (T:G7) (t:TypeId) (s x:AV) (st:St) (k:KK):Prop where
 out:A4K T t s x st k
structure xMk (T:G7) (t:TypeId) (l c:AV) (st:St) (k:KK):Prop where
 out:B0K T t l c st k
def B2w (T:G7) (b:Builtin) (args:List AV) (ts:List TypeId) (st:St) (k:KK):Prop :=
 match b with
 | .append=>match args,ts with
  | [s,x],[t,u]=>(match Nat.beq t u with | true=>A5x T t s x st k | false=>False)
  | _,_=>False
 | b=>A2o T b args ts st k
theorem B7a {T:G7} {b:Builtin} {args:List AV} {ts:List TypeId} {st:St} {k:KK} (h:B2w T b args ts st k):A2o T b args ts st k:=by
 unfold B2w at h
 split at h
 ·unfold A2o
  split at h
  ·split at h
   ·rename_i e;exact ⟨D7y e,h.out⟩
   ·exact h.elim
  ·exact h.elim
 ·exact h
def B5l (P:Program) (T:G7) (M:J0) (r:AV) (name:String) (args:List AV) (st:St) (k:KK):Prop :=
 match r with
 | .iface t v=>match M t name with
  | some (f,none)=>A1R P f (v::args) st k
  | some (f,some el)=>B7d T el v st (fun u st'=>A1R P f (u::args) st' k)
  | none=>False
 | _=>False
theorem B8S {P:Program} {T:G7} {M:J0} {r:AV} {name:String} {args:List AV} {st:St} {k:KK} (h:B5l P T M r name args st k):A6z P T M r name args st k:=by
 unfold B5l at h
 unfold A6z
 split at h
 ·rename_i t v
  simp only
  split at h
  ·rename_i f hf;rw [hf];exact h.out
  ·rename_i f el hf;rw [hf];exact A4L (k:=fun u st'=>A1R P f (u::args) st' k) (fun u hu=>hu.out) (B2x h)
  ·exact h.elim
 ·exact h.elim
def C8J (T:G7) (op:BinOp) (t:TypeId) (x y:AV) (k:AV→Prop):Prop :=
 match x,y,op with
 | .int kk a,.int _ b,.shl=>A5p (decide (b<0)) False (k (.int kk (kk.wrap (a * 2 ^ (min b.toNat kk.bits)))))
 | .int kk a,.int _ b,.shr=>A5p (decide (b<0)) False (k (.int kk (a.fdiv (2 ^ (min b.toNat kk.bits)))))
 | .int kk a,.int k' b,.quo=>match decide (kk=k') with | true=>A5p (decide (b=0)) False (k (.int kk (kk.wrap (a.tdiv b)))) | false=>False
 | .int kk a,.int k' b,.rem=>match decide (kk=k') with | true=>A5p (decide (b=0)) False (k (.int kk (a.tmod b))) | false=>False
 | x,y,op=>match B3X T op t x y with | some z=>k z | none=>False
theorem C6O {T:G7} {op:BinOp} {t:TypeId} {x y:AV} {k:AV→Prop} (h:C8J T op t x y k):match B3X T op t x y with | some z=>k z | none=>False:=by
 unfold C8J at h
 split at h
 ·obtain ⟨h1,h2⟩:=(A0A _ _ _).1 h
  rename_i kk a k' b
  by_cases hb:b<0
  ·exact (h1 (D6m hb)).elim
  ·simp only [B3X,A8T,if_neg hb];exact h2 (D5H hb)
 ·obtain ⟨h1,h2⟩:=(A0A _ _ _).1 h
  rename_i kk a k' b
  by_cases hb:b<0
  ·exact (h1 (D6m hb)).elim
  ·simp only [B3X,A8T,if_neg hb];exact h2 (D5H hb)
 ·rename_i kk a k' b
  by_cases hk:kk=k'
  ·rw [D6m hk] at h
   obtain ⟨h1,h2⟩:=(A0A _ _ _).1 h
   by_cases hb:b=0
   ·exact (h1 (D6m hb)).elim
   ·simp only [B3X,C5j,if_pos hk,if_neg hb];exact h2 (D5H hb)
  ·rw [D5H hk] at h;exact h.elim
 ·rename_i kk a k' b
  by_cases hk:kk=k'
  ·rw [D6m hk] at h
   obtain ⟨h1,h2⟩:=(A0A _ _ _).1 h
   by_cases hb:b=0
   ·exact (h1 (D6m hb)).elim
   ·simp only [B3X,C5j,if_pos hk,if_neg hb];exact h2 (D5H hb)
  ·rw [D5H hk] at h;exact h.elim
 ·exact h
def C4M (T:G7) (op:BinOp) (t:TypeId) (y:Operand) (vx vy:AV) (k:AV→Prop):Prop :=
 match C5k T op t y vx with
 | some z=>k z
 | none=>C8J T op t vx vy k
theorem C4N {T:G7} {op:BinOp} {t:TypeId} {y:Operand} {vx vy:AV} {k:AV→Prop} (h:C4M T op t y vx vy k):match B5q T op t y vx vy with | some z=>k z | none=>False:=by
 unfold C4M at h
 unfold B5q
 split at h
 ·rename_i z hz;rw [hz];exact h
 ·rename_i hz;rw [hz];exact C6O h
structure C8K (s:ByteArray) (j:Int) (k:AV→Prop):Prop where
 out:∃ h:0≤j∧j.toNat<s.size,k (.int .u8 ((s[j.toNat]'h.2).toNat:Int))
def B8R (T:G7) (t:TypeId) (v i:AV) (k:AV→Prop):Prop :=
 match T t with
 | none=>False
 | some r=>match r.desc,v,i with
  | .string,.str s,.int _ j=>C8K s j k
  | .array n el,.agg cs,.int _ j=>match T el with
   | none=>False
   | some q=>(q.agg=false∧j.toNat * q.size<cs.length∧0≤j∧j<n)∧B1e cs (j.toNat * q.size) k
  | _,_,_=>False
theorem C1X {T:G7} {t:TypeId} {v i:AV} {k:AV→Prop} (h:B8R T t v i k):A7r T t v i k:=by
 unfold B8R at h
 unfold A7r
 split at h
 ·exact h.elim
 rename_i r hr
 rw [hr]
 simp only
 split at h
 ·rename_i s kk j hd
  rw [hd]
  exact h.out
 ·rename_i n el cs kk j hd
  rw [hd]
  split at h
  ·exact h.elim
  ·rename_i q hq
   rw [A4X] at h
   simp only [hq]
   exact h
 ·exact h.elim
def C5W (n:Nat) (k:Nat→Prop):Prop :=
 match n with
 | 0=>k 0 | 1=>k 1 | 2=>k 2 | 3=>k 3 | 4=>k 4 | 5=>k 5 | 6=>k 6 | 7=>k 7 | 8=>k 8 | 9=>k 9 | 10=>k 10 | 11=>k 11 | 12=>k 12 | 13=>k 13 | 14=>k 14 | 15=>k 15 | 16=>k 16 | 17=>k 17 | 18=>k 18 | 19=>k 19 | 20=>k 20 | n=>k n
theorem B9w (n:Nat) (k:Nat→Prop):C5W n k=k n:=by unfold C5W;split<;>rfl
def A7N (T:G7) (s:TypeId) (p:AV) (f:Nat) (k:AV→Prop):Prop :=
 match T s with
 | none=>False
 | some r=>match r.desc with
  | .struct fs=>match fs[f]? with
   | none=>False
   | some fl=>match T fl.type with
    | none=>False
    | some q=>match Nat.blt 0 q.size with
     | true=>(match p with
      | .fptr v o=>C5W (o+fl.offset) fun o'=>k (.fptr v o')
      | .optr e b i o=>C5W (o+fl.offset) fun o'=>k (.optr e b i o')
      | _=>False)
     | false=>False
  | _=>False
theorem B3a {T:G7} {s:TypeId} {p:AV} {f:Nat} {k:AV→Prop} (h:A7N T s p f k):A1j T s p f k:=by
 unfold A7N at h
 unfold A1j
 split at h
 ·exact h.elim
 rename_i r hr
 rw [hr]
 simp only
 split at h
 case h_2=>exact h.elim
 rename_i fs hd
 rw [hd]
 simp only
 split at h
 ·exact h.elim
 rename_i fl hf
 rw [hf]
 simp only
 split at h
 ·exact h.elim
 rename_i q hq
 rw [hq]
 simp only
 split at h
 ·rename_i hb
  refine ⟨by simpa using hb,?_⟩
  split at h
  ·rw [B9w] at h;exact h
  ·rw [B9w] at h;exact h
  ·exact h.elim
 ·exact h.elim
def B8Q (T:G7) (s:TypeId) (v:AV) (f:Nat) (k:AV→Prop):Prop :=
 match T s with
 | none=>False
 | some r=>match r.desc with
  | .struct fs=>match fs[f]? with
   | none=>False
   | some fl=>match T fl.type with
    | none=>False
    | some q=>match v with
     | .agg cs=>A8P q cs fl.offset k
     | _=>False
  | _=>False
theorem C1W {T:G7} {s:TypeId} {p:AV} {f:Nat} {k:AV→Prop} (h:B8Q T s p f k):A7q T s p f k:=by
 unfold B8Q at h
 unfold A7q
 split at h
 ·exact h.elim
 rename_i r hr
 rw [hr]
 simp only
 split at h
 case h_2=>exact h.elim
 rename_i fs hd
 rw [hd]
 simp only
 split at h
 ·exact h.elim
 rename_i fl hf
 rw [hf]
 simp only
 split at h
 ·exact h.elim
 rename_i q hq
 rw [hq]
 simp only
 split at h
 ·exact B2z h
 ·exact h.elim
def xOp (P:Program) (T:G7) (M:J0) (fz:Bool) (op:Op) (A:List AV) (st:St) (k:KK):Prop :=
 match op with
 | .move x=>evK A x fun v=>k v st
 | .assign x=>evK A x fun v=>k v st
 | .pick c x y=>evK A c fun v=>match v with | .bool b=>A5p b (evK A x fun u=>k u st) (evK A y fun u=>k u st) | _=>False
 | .binOp op t x y _=>evK A x fun v=>evK A y fun u=>C4M T op t y v u (fun z=>k z st)
 | .unOp op _ x=>evK A x fun v=>match aUn op v with | some z=>k z st | none=>False
 | .load t x=>evK A x fun v=>B7d T t v st k
 | .store t x y=>evK A x fun v=>evK A y fun u=>C4Q T t v u st k
 | .alloc t=>match T t with | some r=>C6P fz t (H2 r.zero) st k | none=>False
 | .box t x=>evK A x fun v=>C6P fz t v st k
 | .build t ps=>C0y A ps.toList fun vs=>B8P T t vs (fun v=>k v st)
 | .buildSlice t n ps=>match n with
  | 0=>C0y A ps.toList fun vs=>B5t T t vs st k
  | m+1=>C0y A ps.toList fun vs=>C8L fz T t (m+1) vs st k
 | .nilCheck x=>evK A x fun v=>match A6A v with | true=>k v st | false=>False
 | .convert s d x=>evK A x fun v=>match A7W T s d v with | some z=>k z st | none=>False
 | .makeInterface t x=>evK A x fun v=>match B4n T t with | true=>k (.iface t v) st | false=>False
 | .makeFunc fn fs cs=>C0z A fs.toList fun us=>C0z A cs.toList fun vs=>k (.fn fn us vs) st
 | .makeSlice t l c=>evK A l fun v=>evK A c fun u=>xMk T t v u st k
 | .slice t x lo hi mx=>evK A x fun v=>C6a A lo fun l=>C6a A hi fun h=>C6a A mx fun m=>A8U T t v l h m (fun v=>k v st)
 | .fieldAddr s x f=>evK A x fun v=>A7N T s v f (fun v=>k v st)
 | .field s x f=>evK A x fun v=>B8Q T s v f (fun v=>k v st)
 | .indexAddr t x i=>evK A x fun v=>evK A i fun u=>A1V T t v u (fun v=>k v st)
 | .index t x i=>evK A x fun v=>evK A i fun u=>B8R T t v u (fun v=>k v st)
 | .typeAssert x _ t ok=>evK A x fun v=>match B0m T v t ok with | some z=>k z st | none=>False
 | .extract x i=>evK A x fun v=>A4j v i (fun v=>k v st)
 | .call c=>C0z A c.args.toList fun args=>match c.callee with
  | .builtin b=>B2w T b args c.argTypes.toList st k
  | .invoke r name=>evK A r fun v=>B5l P T M v name args st k
  | .value f=>evK A f fun v=>match v with
   | .fn g fs cs=>(match g with | .func n=>C2u fs args fun l=>C2u l cs fun l=>A1R P n l st k | _=>False)
   | _=>False
 | _=>False
theorem A3C {P:Program} {T:G7} {M:J0} {fz:Bool} {o:Oper} {A:List AV} {st:St} {k:KK} (h:xOp P T M fz o.op A st k):aOp P T M o A st k:=by
 obtain ⟨dst,op,type,pos,after,guard⟩:=o
 unfold aOp
 cases op<;>simp only [xOp,A4V,B9l,B0o,C6b,A4N] at h ⊢<;>try exact h
 case alloc t =>
  split at h
  ·rename_i r hr;rw [hr];exact B9Y h
  ·exact h.elim
 case box t x=>exact B9Y h
 case fieldAddr t x f=>exact B3a h
 case field t x f=>exact C1W h
 case binOp op t x y _=>exact C4N h
 case index t x f=>exact C1X h
 case load t x=>exact B2x h
 case store t x y =>
  unfold C4Q at h
  split at h
  ·rename_i hv;rw [hv];exact h.out
  ·exact h.elim
 case makeSlice t l c=>exact h.out
 case build t ps=>exact C1U h
 case buildSlice t n ps =>
  cases n with
  | zero=>simp only [B0o] at h;exact h
  | succ m=>simp only [B0o] at h;exact C6S h
 case pick c x y =>
  split at h
  ·rename_i b hb
   simp only [hb]
   exact (A0A _ _ _).1 h
  ·exact h.elim
 case nilCheck x =>
  split at h
  ·rename_i hb;exact ⟨hb,h⟩
  ·exact h.elim
 case makeInterface t x =>
  split at h
  ·rename_i hb;exact ⟨hb,h⟩
  ·exact h.elim
 case call c =>
  obtain ⟨callee,args,ts⟩:=c
  cases callee with
  | builtin b=>exact B7a h
  | invoke r name=>simp only [A4V] at h;exact B8S h
  | value f =>
   simp only [A4V,A4N] at h
   simp only [A4M]
   split at h
   ·rename_i g fs cs hf
    rw [hf]
    simp only
    split at h
    ·exact h.out
    ·exact h.elim
   ·exact h.elim
def A6v (ops:List Oper) (o:Oper) (A:List AV) (x y:Prop):Prop :=
 match o.guard with
 | none=>x
 | some (g,want)=>match ops[g]? with
  | none=>y
  | some p=>match p.dst with
   | none=>y
   | some d=>B1e A d fun v=>match v with
    | .bool b=>(match want with | true=>A5p b x y | false=>A5p b y x)
    | .tuple _=>y
    | _=>False
theorem A4E {ops:List Oper} {o:Oper} {A:List AV} {x y:Prop} (h:A6v ops o A x y):∃ b,A0W ops o A=some b∧(b=true→x)∧(b=false→y):=by
 unfold A6v at h
 unfold A0W
 split at h
 ·rename_i hg;exact ⟨true,by simp [hg],fun _=>h,fun e=>by cases e⟩
 ·rename_i g want hg
  simp only [hg]
  split at h
  ·rename_i hp;exact ⟨false,by simp [hp],(fun e=>by cases e),fun _=>h⟩
  ·rename_i p hp
   simp only [hp]
   split at h
   ·rename_i hd;exact ⟨false,by simp [hd],(fun e=>by cases e),fun _=>h⟩
   ·rename_i d hd
    simp only [hd]
    rw [A4X] at h
    rw [D5A] at h
    cases hA:A[d]? with
    | none=>exact ⟨false,by simp,(fun e=>by cases e),fun _=>by rw [hA] at h;exact h.elim⟩
    | some v =>
     rw [hA] at h
     simp only [Option.getD_some] at h
     split at h
     ·rename_i b
      cases want with
      | true=>exact ⟨b,by simp,(A0A _ _ _).1 h⟩
      | false=>exact ⟨!b,by simp,fun e=>((A0A _ _ _).1 h).2 (by simpa using e),fun e=>((A0A _ _ _).1 h).1 (by simpa using e)⟩
     ·exact ⟨false,rfl,(fun e=>by cases e),fun _=>h⟩
     ·exact h.elim
def inF (frz:List Nat) (d:Option Tmp):Bool:=match d with | some p=>frz.contains p | none=>false
def A5X (frz:List Nat) (o1 o2:Oper):Option (Tmp×TypeId×TypeId×Operand) :=
 match o1.guard,o2.guard with
 | none,none=>match o1.op,o1.dst,o2.op with
  | .alloc t,some p,.store u (.tmp q) y=>(match Nat.beq p q&&frz.contains p with | true=>some (p,t,u,y) | false=>none)
  | _,_,_=>none
 | _,_=>none
theorem B7H {rd:Addr→Option Value} {sz:Nat→Nat} {v v':AV} {r:Nat} {c:Value} (he:cellsOf v=cellsOf v') (h:Rep rd sz (.fptr v r) c):Rep rd sz (.fptr v' r) c:=by
 cases h with
 | fptr v r a g hr hg=>exact .fptr v' r a g (fun j hj=>hr j (by rw [he];exact hj)) (fun j y hy=>hg j y (by rw [he];exact hy))
theorem C5B {A:List AV} {st:St} {p b:Nat} {d:Option Tmp} {x y:K8} {v:AV} {e:Nat} (hb:st b=none) (hn:0<y.n) (hv:cellsOf (y.f 0)=cellsOf v) (hp:p<A.length) (hd:d≠some p) :
  A5H (K4 (K4 A (some p) (.optr e b 0 0)) d (.tuple [])) (upd (upd st b x) b y) (K4 (K4 A (some p) (.fptr v 0)) d (.tuple [])) st:=by
 intro w a hA hS
 have hst:upd (upd st b x) b y b=some y:=by simp [upd]
 have hne:∀ c,c≠b→upd (upd st b x) b y c=st c:=fun c hc=>by simp [upd,hc]
 have he:Evo (upd (upd st b x) b y) w st w:=⟨rfl,rfl,rfl,D5J _,fun c _ hs=>⟨rfl,by
  by_cases hc:c=b
  ·subst hc;exact hb
  ·rw [hne c hc] at hs;exact hs⟩,fun _=>D5J _⟩
 obtain ⟨cs,hok⟩:=hS b y hst
 refine ⟨⟨by have:=hA.len;simp [K4] at this ⊢;cases d<;>simp_all,fun i u hu=>?_,hA.defers⟩,fun c z hz=>?_,he⟩
 ·by_cases hi:i=p
  ·subst hi
   have hpt:(K4 (K4 A (some i) (.optr e b 0 0)) d (.tuple []))[i]?=some (.optr e b 0 0):=by
    cases d with
    | none=>simp [K4,hp]
    | some q=>simp only [K4];rw [D7u (fun h=>hd (by rw [h]))];simp [hp]
   have hpt':(K4 (K4 A (some i) (.fptr v 0)) d (.tuple []))[i]?=some (.fptr v 0):=by
    cases d with
    | none=>simp [K4,hp]
    | some q=>simp only [K4];rw [D7u (fun h=>hd (by rw [h]))];simp [hp]
   rw [hpt'] at hu
   cases hu
   obtain ⟨c,hc1,hc2⟩:=hA.at_ i _ hpt
   refine ⟨c,hc1,?_⟩
   cases hc2
   have:=B7H hv (A9L (hok.evo he rfl) hb hn)
   simpa using this
  ·have hsame:(K4 (K4 A (some p) (.optr e b 0 0)) d (.tuple []))[i]?=(K4 (K4 A (some p) (.fptr v 0)) d (.tuple []))[i]?:=by
    cases d with
    | none=>simp only [K4];rw [D7u (fun h=>hi h.symm),D7u (fun h=>hi h.symm)]
    | some q =>
     simp only [K4,D7D,D6M]
     rw [if_neg (show ¬ p=i from fun h=>hi h.symm),if_neg (show ¬ p=i from fun h=>hi h.symm)]
   rw [←hsame] at hu
   obtain ⟨c,hc1,hc2⟩:=hA.at_ i u hu
   exact ⟨c,hc1,he.rep hc2⟩
 ·have hc:c≠b:=fun h=>by rw [h,hb] at hz;cases hz
  obtain ⟨ds,hd'⟩:=hS c z (by rw [hne c hc];exact hz)
  exact ⟨ds,hd'.evo he rfl⟩
def B7X (d:Option Tmp) (p:Tmp):Bool:=match d with | some q=>!Nat.beq q p | none=>true
def B9x (y:Operand) (p:Tmp):Bool:=match y with | .tmp q=>!Nat.beq q p | _=>true
theorem C0T {d:Option Tmp} {p:Tmp} (h:B7X d p=true):d≠some p:=fun e=>by subst e;simp [B7X] at h
theorem B5X {y:Operand} {p:Tmp} (h:B9x y p=true):y≠.tmp p:=fun e=>by subst e;simp [B9x] at h
def B2y (T:G7) (p:Tmp) (t u:TypeId) (y:Operand) (d:Option Tmp) (A:List AV) (st:St) (k:KA):Prop :=
 match T t,T u with
 | some r,some q=>evK A y fun v=>match Nat.blt p A.length&&B7X d p&&Nat.blt 0 q.size&&Nat.beq (cellsOf (H2 r.zero)).length q.size&&(cellsOf (H2 r.zero)).all AV.one&&Nat.beq (cellsOf v).length q.size&&(cellsOf v).all AV.one&&B9x y p with
   | true=>B4U A p (.fptr v 0) fun A'=>A1O A' d (.tuple []) fun A''=>k A'' st
   | false=>False
 | _,_=>False
theorem B4T {v:AV} {cs:List AV} (h:cs.length=(cellsOf v).length) (h1:cs.all AV.one=true) (h2:0<cs.length):cellsOf (P9 v 0 cs)=cs:=by
 rw [A6j (by omega) h1 h2]
 simp [h]
theorem A6t {P:Program} {T:G7} {M:J0} {frz:List Nat} {o1 o2:Oper} {p:Tmp} {t u:TypeId} {y:Operand} (hp:A5X frz o1 o2=some (p,t,u,y)) {A:List AV} {st:St} {k:KA} (h:B2y T p t u y o2.dst A st k) :
  o1.guard=none∧o2.guard=none∧aOp P T M o1 A st fun v st'=>aOp P T M o2 (K4 A o1.dst v) st' fun v' st''=>A5v k (K4 (K4 A o1.dst v) o2.dst v') st'':=by
 unfold A5X at hp
 split at hp
 case h_2=>cases hp
 rename_i hg1 hg2
 split at hp
 case h_2=>cases hp
 rename_i t' p' u' q' y' ho1 hd1 ho2
 split at hp
 case h_2=>cases hp
 rename_i hb
 cases hp
 simp only [D5G] at hb
 obtain rfl:=D7y hb.1
 refine ⟨hg1,hg2,?_⟩
 unfold B2y at h
 split at h
 case h_2=>exact h.elim
 rename_i r q hr hq
 rw [A4V] at h
 split at h
 case h_2=>exact h.elim
 rename_i hb
 simp only [D5G,D8m,Nat.beq_eq] at hb
 obtain ⟨⟨⟨⟨⟨⟨⟨hlt,hd⟩,hq0⟩,hz1⟩,hz2⟩,hv1⟩,hv2⟩,hy⟩:=hb
 have hd:=C0T hd
 have hy:=B5X hy
 rw [A8H,U4] at h
 have hk:=h
 unfold aOp
 rw [ho1,ho2,hd1]
 simp only [hr,hq]
 refine ⟨by omega,hz2,.inr fun b hb=>⟨hq0,?_⟩⟩
 have hevp:ev (K4 A (some p) (.optr (cellsOf (H2 r.zero)).length b 0 0)) (.tmp p)=.optr (cellsOf (H2 r.zero)).length b 0 0:=by
  simp [ev,K4,hlt]
 have hevy:ev (K4 A (some p) (.optr (cellsOf (H2 r.zero)).length b 0 0)) y=ev A y:=B7D fun t ht hyt=>by
  cases ht;exact hy hyt
 unfold A7s
 simp only [hq,hevp,hevy]
 have hst:upd st b ⟨t,(cellsOf (H2 r.zero)).length,1,fun _=>H2 r.zero⟩ b=some ⟨t,(cellsOf (H2 r.zero)).length,1,fun _=>H2 r.zero⟩:=by simp [upd]
 rw [hst]
 refine ⟨rfl,Nat.one_pos,hv1,hv2,by simp only;omega,_,_,C5B hb Nat.one_pos ?_ hlt hd,hk⟩
 simp only [I1,if_true]
 exact B4T (by omega) hv2 (by omega)
def A8N (frz:List Nat) (o om o2:Oper):Option (Tmp×Operand×Tmp×TypeId×TypeId×Operand) :=
 match om.guard,om.op,om.dst,A5X frz o o2 with
 | none,.assign x,some m,some (p,t,u,y)=>(match !Nat.beq m p&&B9x x p with | true=>some (m,x,p,t,u,y) | false=>none)
 | _,_,_,_=>none
def B0F (T:G7) (m:Tmp) (x:Operand) (p:Tmp) (t u:TypeId) (y:Operand) (d:Option Tmp) (A:List AV) (st:St) (k:KA):Prop :=
 evK A x fun v=>B4U A m v fun A1=>B2y T p t u y d A1 st k
theorem B2G {P:Program} {T:G7} {M:J0} {o:Oper} {t:TypeId} (ho:o.op=.alloc t) {A B:List AV} {st:St} {k:KK} (h:aOp P T M o A st k):aOp P T M o B st k:=by
 unfold aOp at *
 rw [ho] at h ⊢
 exact h
theorem B3c {P:Program} {T:G7} {M:J0} {frz:List Nat} {o1 om o2:Oper} {m p:Tmp} {x:Operand} {t u:TypeId} {y:Operand} (hp:A8N frz o1 om o2=some (m,x,p,t,u,y)) {A:List AV} {st:St} {k:KA} (h:B0F T m x p t u y o2.dst A st k) :
  o1.guard=none∧om.guard=none∧o2.guard=none∧aOp P T M o1 A st fun v st'=>aOp P T M om (K4 A o1.dst v) st' fun v1 st1=>aOp P T M o2 (K4 (K4 A o1.dst v) om.dst v1) st1 fun v' st''=>A5v k (K4 (K4 (K4 A o1.dst v) om.dst v1) o2.dst v') st'':=by
 unfold A8N at hp
 split at hp
 case h_2=>cases hp
 rename_i x' m' p' t' u' y' hg hop hdst hpr
 split at hp
 case h_2=>cases hp
 rename_i hb
 cases hp
 simp only [D5G,D5Q] at hb
 have hmp:m≠p:=fun e=>by subst e;simp at hb
 have hxp:x≠.tmp p:=B5X hb.2
 unfold B0F at h
 rw [A4V,A8H] at h
 obtain ⟨g1,g2,h1⟩:=A6t (P:=P) (M:=M) hpr h
 have hal:∃ t0,o1.op=.alloc t0∧o1.dst=some p:=by
  unfold A5X at hpr
  split at hpr
  case h_2=>cases hpr
  split at hpr
  case h_2=>cases hpr
  rename_i t0 p0 u0 q0 y0 ho1 hd1 ho2
  split at hpr
  case h_2=>cases hpr
  cases hpr
  exact ⟨_,ho1,hd1⟩
 obtain ⟨t0,ho1,hd1⟩:=hal
 refine ⟨g1,hg,g2,R8 (fun v st' h2=>?_) (B2G (B:=A) ho1 h1)⟩
 have e1:ev (K4 A (some p) v) x=ev A x:=B7D fun t ht hx=>by cases ht;exact hxp hx
 have e2:K4 (K4 A (some p) v) (some m) (ev A x)=K4 (A.set m (ev A x)) (some p) v:=by
  have:=A6O A (x:=some p) (y:=some m) v (ev A x) (fun d hd e=>by cases hd;cases e;exact hmp rfl)
  exact this
 rw [hd1] at h2 ⊢
 rw [hdst]
 unfold aOp
 rw [hop]
 simp only [e1,e2]
 exact h2
def C1Z (P:Program) (T:G7) (M:J0) (frz:List Nat) (ops:List Oper):List Oper→List AV→St→KA→Prop
 | [],A,st,k=>k A st
 | o::rest,A,st,k=>match (match rest with | [o2]=>A5X frz o o2 | _=>none) with
  | some (p,t,u,y)=>(match rest with | [o2]=>B2y T p t u y o2.dst A st k | _=>False)
  | none=>match (match rest with | [om,o2]=>A8N frz o om o2 | _=>none) with
  | some (m,x,p,t,u,y)=>(match rest with | [_,o2]=>B0F T m x p t u y o2.dst A st k | _=>False)
  | none=>A6v ops o A
   (xOp P T M (inF frz o.dst) o.op A st fun v st'=>A1O A o.dst v fun A'=>C1Z P T M frz ops rest A' st' k)
   (A1O A o.dst (.tuple []) fun A'=>C1Z P T M frz ops rest A' st k)
theorem A4k {P:Program} {T:G7} {M:J0} {ops:List Oper} {o:Oper} {rest:List Oper} {A:List AV} {st:St} {k:KA} (hg:o.guard=none) (h:aOp P T M o A st fun v st'=>A8S P T M ops rest (K4 A o.dst v) st' k):A8S P T M ops (o::rest) A st k:=by
 unfold A8S A0W
 rw [hg]
 exact ⟨fun _=>h,fun e=>by cases e⟩
theorem B0E {P:Program} {T:G7} {M:J0} {frz:List Nat} {ops:List Oper}:∀ (l:List Oper) (A:List AV) (st:St) (k:KA),C1Z P T M frz ops l A st k→A8S P T M ops l A st (A5v k)
 | [],A,st,k,h=>⟨A,st,A5H.refl A st,h⟩
 | o::rest,A,st,k,h=>by
  unfold C1Z at h
  split at h
  ·rename_i p t u y hp
   split at hp
   ·rename_i o2
    obtain ⟨g1,g2,h1⟩:=A6t (P:=P) (M:=M) hp h
    exact A4k g1 (R8 (fun v st' h2=>A4k g2 h2) h1)
   ·cases hp
  ·split at h
   ·rename_i m x p t u y hp
    split at hp
    ·rename_i om o2
     obtain ⟨g1,g2,g3,h1⟩:=B3c (P:=P) (M:=M) hp h
     exact A4k g1 (R8 (fun v st' h2=>A4k g2 (R8 (fun v1 st1 h3=>A4k g3 h3) h2)) h1)
    ·cases hp
   obtain ⟨b,hb,h1,h2⟩:=A4E h
   unfold A8S
   rw [hb]
   refine ⟨fun e=>R8 (fun v st' hk=>?_) (A3C (h1 e)),fun e=>?_⟩
   ·rw [U4] at hk;exact B0E rest _ _ _ hk
   ·have:=h2 e;rw [U4] at this;exact B0E rest _ _ _ this
def B1i (op:Op):Bool:=A1l op||(match op with | .load ..=>true | _=>false)
theorem B6g {r:C4} {cs:List AV} {i:Nat} {k:AV→Prop} (h:pick r cs i k):∃ v,(pick r cs i fun v'=>v'=v)∧k v:=by
 unfold pick at *
 split at h
 ·exact ⟨_,⟨h.1,rfl⟩,h.2⟩
 ·split at h
  ·exact ⟨_,rfl,h⟩
  ·exact h.elim
theorem B4j {P:Program} {T:G7} {M:J0} {o:Oper} (hd:B1i o.op=true) {A:List AV} {st:St} {k:KK} (h:aOp P T M o A st k):∃ v,(aOp P T M o A st fun v' s=>v'=v∧s=st)∧k v st:=by
 unfold aOp at *
 split at h
 all_goals repeat' first
  | exact h.elim
  | exact ⟨_,⟨rfl,rfl⟩,h⟩
  | exact ⟨_,⟨h.1,rfl,rfl⟩,h.2⟩
  | exact ⟨_,⟨h.1,h.2.1,rfl,rfl⟩,h.2.2⟩
  | exact ⟨_,⟨h.1,h.2.1,h.2.2.1,rfl,rfl⟩,h.2.2.2⟩
  | exact ⟨_,⟨h.1,h.2.1,h.2.2.1,h.2.2.2.1,rfl,rfl⟩,h.2.2.2.2⟩
  | (obtain ⟨v,h1,h2⟩:=B6g h;exact ⟨v,A4u (fun v' e=>⟨e,rfl⟩) h1,h2⟩)
  | (obtain ⟨v,h1,h2⟩:=B6g h.2.2;exact ⟨v,⟨h.1,h.2.1,A4u (fun v' e=>⟨e,rfl⟩) h1⟩,h2⟩)
  | (obtain ⟨h0,h⟩:=h;split at h<;>first | exact h.elim | exact ⟨_,⟨h0,rfl,rfl⟩,h⟩)
  | (rename_i b hb;cases b;exact ⟨_,⟨(fun e=>by cases e),fun _=>⟨rfl,rfl⟩⟩,h.2 rfl⟩;exact ⟨_,⟨fun _=>⟨rfl,rfl⟩,fun e=>by cases e⟩,h.1 rfl⟩)
  | split at h
  | unfold A3j at h ⊢ | unfold A7p at h ⊢ | unfold A8U at h ⊢ | unfold A1j at h ⊢ | unfold A7q at h ⊢ | unfold A1V at h ⊢ | unfold A7r at h ⊢ | unfold A4j at h ⊢ | unfold A2o at h ⊢
  | (exfalso;clear h;simp_all [B1i,A1l];done)
def B3b (P:Program) (T:G7) (M:J0) (frz:List Nat) (ops:List Oper) (eff ext:List Nat):List Nat→List AV→St→KA→Prop
 | [],A,st,k=>k A st
 | i::ord,A,st,k=>match ops[i]? with
  | none=>False
  | some o=>match (match ord with | [j]=>(match ops[j]? with | some o2=>(match eff.contains i&&eff.contains j with | true=>A5X frz o o2 | false=>none) | none=>none) | _=>none) with
   | some (p,t,u,y)=>(match ord with | [j]=>(match ops[j]? with | some o2=>B2y T p t u y o2.dst A st k | none=>False) | _=>False)
   | none=>A6v ops o A
    (match eff.contains i with
     | true=>xOp P T M (inF frz o.dst) o.op A st fun v st'=>A1O A o.dst v fun A'=>B3b P T M frz ops eff ext ord A' st' k
     | false=>match ext.contains i with
      | true=>∃ v,(∀ st',Ext st st'→xOp P T M (inF frz o.dst) o.op A st' fun v' st''=>v'=v∧st''=st')∧A1O A o.dst v fun A'=>B3b P T M frz ops eff ext ord A' st k
      | false=>match B1i o.op with
       | true=>xOp P T M (inF frz o.dst) o.op A st fun v _=>A1O A o.dst v fun A'=>B3b P T M frz ops eff ext ord A' st k
       | false=>∃ v,(xOp P T M (inF frz o.dst) o.op A st fun v' st''=>v'=v∧st''=st)∧A1O A o.dst v fun A'=>B3b P T M frz ops eff ext ord A' st k)
    (A1O A o.dst (.tuple []) fun A'=>B3b P T M frz ops eff ext ord A' st k)
theorem A6X {P:Program} {T:G7} {M:J0} {frz:List Nat} {ops:List Oper} {eff ext:List Nat}:∀ (ord:List Nat) (A:List AV) (st:St) (k:KA),B3b P T M frz ops eff ext ord A st k→B0Y P T M ops eff ext ord A st (A5v k)
 | [],A,st,k,h=>⟨A,st,A5H.refl A st,h⟩
 | i::ord,A,st,k,h=>by
  unfold B3b at h
  cases ho:ops[i]? with
  | none=>rw [ho] at h;exact h.elim
  | some o =>
   rw [ho] at h
   simp only at h
   split at h
   ·rename_i p t u y hp
    split at hp
    ·rename_i j
     split at hp
     ·rename_i o2 ho2
      split at hp
      ·rename_i hee
       simp only [D5G] at hee
       simp only [ho2] at h
       obtain ⟨g1,g2,h1⟩:=A6t (P:=P) (M:=M) hp h
       unfold B0Y
       rw [ho]
       have w1:A0W ops o A=some true:=by unfold A0W;rw [g1]
       simp only [w1]
       refine ⟨fun _=>?_,fun e=>by cases e⟩
       rw [hee.1]
       refine R8 (fun v st' h2=>?_) h1
       unfold B0Y
       rw [ho2]
       have w2:A0W ops o2 (K4 A o.dst v)=some true:=by unfold A0W;rw [g2]
       simp only [w2]
       refine ⟨fun _=>?_,fun e=>by cases e⟩
       rw [hee.2]
       exact R8 (fun v' st'' h3=>h3) h2
      ·cases hp
     ·cases hp
    ·cases hp
   ·unfold B0Y
    rw [ho]
    simp only
    obtain ⟨b,hb,h1,h2⟩:=A4E h
    rw [hb]
    simp only
    refine ⟨fun e=>?_,fun e=>?_⟩
    ·have h1:=h1 e
     split at h1
     ·rename_i hc
      rw [hc]
      exact R8 (fun v st' hk=>by rw [U4] at hk;exact A6X ord _ _ _ hk) (A3C h1)
     ·rename_i hc
      rw [hc]
      simp only
      split at h1
      ·rename_i hx
       rw [hx]
       obtain ⟨v,hv,hk⟩:=h1
       rw [U4] at hk
       exact ⟨v,fun st' hs=>A3C (hv st' hs),A6X ord _ _ _ hk⟩
      ·rename_i hx
       rw [hx]
       simp only
       split at h1
       ·rename_i hdet
        obtain ⟨v,hv,hk⟩:=B4j hdet (A3C h1)
        rw [U4] at hk
        exact ⟨v,hv,A6X ord _ _ _ hk⟩
       ·obtain ⟨v,hv,hk⟩:=h1
        rw [U4] at hk
        exact ⟨v,A3C hv,A6X ord _ _ _ hk⟩
    ·have:=h2 e
     rw [U4] at this
     exact A6X ord _ _ _ this
def B7c (P:Program) (T:G7) (M:J0) (frz:List Nat) (ops:List Oper) (i:Nat) (K:KA) (A:List AV) (st:St):Prop :=
 match ops[i]? with
 | none=>False
 | some o=>A6v ops o A (xOp P T M (inF frz o.dst) o.op A st fun v st'=>A1O A o.dst v fun A'=>K A' st') (A1O A o.dst (.tuple []) fun A'=>K A' st)
def C6Q (P:Program) (T:G7) (M:J0) (frz:List Nat) (ops:List Oper) (i:Nat) (K:KA) (A:List AV) (st:St):Prop :=
 match ops[i]? with
 | none=>False
 | some o=>A6v ops o A
  (match B1i o.op with
   | true=>xOp P T M (inF frz o.dst) o.op A st fun v _=>A1O A o.dst v fun A'=>K A' st
   | false=>∃ v,(xOp P T M (inF frz o.dst) o.op A st fun v' st''=>v'=v∧st''=st)∧A1O A o.dst v fun A'=>K A' st)
  (A1O A o.dst (.tuple []) fun A'=>K A' st)
def A7l (P:Program) (T:G7) (M:J0) (frz:List Nat) (ops:List Oper):OT→List AV→St→KA→Prop
 | .done,A,st,k=>k A st
 | .gen i t,A,st,k=>B7c P T M frz ops i (fun A' st'=>A7l P T M frz ops t A' st' k) A st
 | .qui i t,A,st,k=>C6Q P T M frz ops i (fun A' st'=>A7l P T M frz ops t A' st' k) A st
 | .two i j t u,A,st,k=>B7c P T M frz ops i (fun A' st'=>A7l P T M frz ops t A' st' k) A st∧B7c P T M frz ops j (fun A' st'=>A7l P T M frz ops u A' st' k) A st
theorem B5k {P:Program} {T:G7} {M:J0} {frz:List Nat} {ops:List Oper} {i:Nat} {K K':KA} {A:List AV} {st:St} (hK:∀ A st,K A st→K' A st) (h:B7c P T M frz ops i K A st):B7y P T M ops i K' A st:=by
 unfold B7c at h
 unfold B7y
 cases ho:ops[i]? with
 | none=>rw [ho] at h;exact h.elim
 | some o =>
  rw [ho] at h
  simp only at h ⊢
  obtain ⟨b,hb,h1,h2⟩:=A4E h
  rw [hb]
  refine ⟨fun e=>?_,fun e=>?_⟩
  ·exact R8 (fun v st' hk=>by rw [U4] at hk;exact hK _ _ hk) (A3C (h1 e))
  ·have:=h2 e
   rw [U4] at this;exact hK _ _ this
theorem C6R {P:Program} {T:G7} {M:J0} {frz:List Nat} {ops:List Oper} {i:Nat} {K K':KA} {A:List AV} {st:St} (hK:∀ A st,K A st→K' A st) (h:C6Q P T M frz ops i K A st):C5p P T M ops i K' A st:=by
 unfold C6Q at h
 unfold C5p
 cases ho:ops[i]? with
 | none=>rw [ho] at h;exact h.elim
 | some o =>
  rw [ho] at h
  simp only at h ⊢
  obtain ⟨b,hb,h1,h2⟩:=A4E h
  rw [hb]
  refine ⟨fun e=>?_,fun e=>?_⟩
  ·have h1:=h1 e
   split at h1
   ·rename_i hdet
    obtain ⟨v,hv,hk⟩:=B4j hdet (A3C h1)
    rw [U4] at hk
    exact ⟨v,hv,hK _ _ hk⟩
   ·obtain ⟨v,hv,hk⟩:=h1
    rw [U4] at hk
    exact ⟨v,A3C hv,hK _ _ hk⟩
  ·have:=h2 e
   rw [U4] at this;exact hK _ _ this
theorem A6u {P:Program} {T:G7} {M:J0} {frz:List Nat} {ops:List Oper}:∀ (t:OT) (A:List AV) (st:St) (k:KA),A7l P T M frz ops t A st k→A8e P T M ops t A st (A5v k)
 | .done,A,st,k,h=>⟨A,st,A5H.refl A st,h⟩
 | .gen i t,A,st,k,h=>B5k (fun A st h=>A6u t A st k h) h
 | .qui i t,A,st,k,h=>C6R (fun A st h=>A6u t A st k h) h
 | .two i j t u,A,st,k,h=>⟨B5k (fun A st h=>A6u t A st k h) h.1,B5k (fun A st h=>A6u u A st k h) h.2⟩
def xDr (P:Program) (T:G7) (M:J0) (frz:List Nat) (ops:List Oper) (A:List AV) (st:St) (k:KA):Prop :=
 ∃ eff ext ord:List Nat,match ord with
  | []=>∃ t:OT,(Region.noSelect ops.toArray&&okT ops.toArray eff t ops.length (Array.replicate ops.length false))=true∧A7l P T M frz ops t A st k
  | _::_=>(Region.noSelect ops.toArray&&B1x ops.toArray eff ext ord (Array.replicate ops.length false)&&(ord.length==ops.length))=true∧B3b P T M frz ops eff ext ord A st k
theorem C4O {P:Program} {T:G7} {M:J0} {frz:List Nat} {ops:List Oper} {A:List AV} {st:St} {k:KA} (h:xDr P T M frz ops A st k):Dr P T M ops A st (A5v k):=by
 obtain ⟨eff,ext,ord,h⟩:=h
 refine ⟨eff,ext,ord,?_⟩
 split at h
 ·obtain ⟨t,h1,h2⟩:=h
  exact ⟨t,h1,A6u t _ _ _ h2⟩
 ·exact ⟨h.1,A6X _ _ _ _ h.2⟩
def B1Y:Nat→(List AV→Prop)→Prop
 | 0,k=>k []
 | n+1,k=>B1Y n fun A=>k (.junk::A)
theorem B1Z:∀ (n:Nat) (k:List AV→Prop),B1Y n k=k (List.replicate n .junk)
 | 0,k=>rfl
 | n+1,k=>by rw [B1Y,B1Z n];rfl
def A8I:List Nat→List AV→List AV→(List AV→Prop)→Prop
 | i::is,v::vs,A,k=>B4U A i v fun A'=>A8I is vs A' k
 | _,_,A,k=>k A
theorem B2f:∀ (is:List Nat) (vs A:List AV) (k:List AV→Prop),A8I is vs A k=k ((is.zip vs).foldl (fun A p=>A.set p.1 p.2) A)
 | [],vs,A,k=>by simp [A8I]
 | i::is,[],A,k=>by simp [A8I]
 | i::is,v::vs,A,k=>by simp only [A8I,A8H,B2f is vs,List.zip_cons_cons,D6W]
def A3J (A:List AV):List Nat→(List AV→Prop)→Prop
 | [],k=>k []
 | i::is,k=>B1e A i fun v=>A3J A is fun vs=>k (v::vs)
theorem A2r (A:List AV):∀ (is:List Nat) (k:List AV→Prop),A3J A is k=k (is.map fun i=>A.getD i AV.junk)
 | [],k=>rfl
 | i::is,k=>by simp only [A3J,A4X,A2r A is,D6I]
def C4P (T:G7) (A:List AV) (st:St) (r:ResultVar) (k:AV→Prop):Prop :=
 match r with
 | .tmp t=>B1e A t k
 | .cell t ty=>B1e A t fun p=>B7d T ty p st (fun v _=>k v)
def B7e (T:G7) (A:List AV) (st:St):List ResultVar→(List AV→Prop)→Prop
 | [],k=>k []
 | r::rs,k=>C4P T A st r fun v=>B7e T A st rs fun vs=>k (v::vs)
theorem B2A {T:G7} {A:List AV} {st:St}:∀ (rs:List ResultVar) (k:List AV→Prop),B7e T A st rs k→A9G T A st rs k
 | [],k,h=>h
 | r::rs,k,h=>by
  simp only [B7e] at h
  simp only [A9G]
  cases r with
  | tmp t=>simp only [C4P,B5r,A4X] at h ⊢;exact B2A rs _ h
  | cell t ty=>simp only [C4P,B5r,A4X] at h ⊢;exact A4L (fun v hv=>B2A rs _ hv) (B2x h)
def C1V (T:G7) (rs:List ResultVar) (post:KK):Exit→KA:=fun e A st=>match e with
 | .normal=>B7e T A st rs fun vs=>post (B0g vs) st
 | .ret=>B7e T A st rs fun vs=>post (B0g vs) st
 | _=>False
def C6M:Nat→(List AV→Prop)→Prop
 | 0,k=>k []
 | n+1,k=>C6M n fun A=>k (.tuple []::A)
theorem B9U:∀ (n:Nat) (k:List AV→Prop),C6M n k=k (List.replicate n (.tuple []))
 | 0,k=>rfl
 | n+1,k=>by rw [C6M,B9U n];rfl
def A4a:List AV→Nat→(List AV→Prop)→Prop
 | [],n,k=>C6M n k
 | v::vs,n,k=>A4a vs (n - 1) fun A=>k (v::A)
theorem B3P:∀ (args:List AV) (n:Nat) (k:List AV→Prop),A4a args n k=k (start args n)
 | [],n,k=>by rw [A4a,B9U];simp [start]
 | v::vs,n,k=>by
  rw [A4a,B3P vs (n - 1)]
  unfold start
  simp only [D6n,D7V]
  rw [show n - 1 - vs.length=n - (vs.length+1) from by omega]
noncomputable def C4S (P:Program) (T:G7) (M:J0) (frz:List Nat) (ops:List Oper) (l:List Oper):List AV→St→KA→Prop :=
 List.rec (motive:=fun _=>List AV→St→KA→Prop) (fun A st k=>k A st)
  (fun o rest ih A st k=>match (match rest with | [o2]=>A5X frz o o2 | _=>none) with
   | some (p,t,u,y)=>(match rest with | [o2]=>B2y T p t u y o2.dst A st k | _=>False)
   | none=>match (match rest with | [om,o2]=>A8N frz o om o2 | _=>none) with
   | some (m,x,p,t,u,y)=>(match rest with | [_,o2]=>B0F T m x p t u y o2.dst A st k | _=>False)
   | none=>A6v ops o A
    (xOp P T M (inF frz o.dst) o.op A st fun v st'=>A1O A o.dst v fun A'=>ih A' st' k)
    (A1O A o.dst (.tuple []) fun A'=>ih A' st k)) l
theorem B5m {P:Program} {T:G7} {M:J0} {frz:List Nat} {ops:List Oper}:∀ l,C4S P T M frz ops l=C1Z P T M frz ops l
 | []=>rfl
 | o::rest=>by
  funext A st k
  conv=>rhs;unfold C1Z
  rw [←B5m rest]
  rfl
noncomputable def D2E (P:Program) (T:G7) (M:J0) (frz:List Nat) (ops:List Oper) (eff ext:List Nat) (ord:List Nat):List AV→St→KA→Prop :=
 List.rec (motive:=fun _=>List AV→St→KA→Prop) (fun A st k=>k A st)
  (fun i ord ih A st k=>match ops[i]? with
   | none=>False
   | some o=>match (match ord with | [j]=>(match ops[j]? with | some o2=>(match eff.contains i&&eff.contains j with | true=>A5X frz o o2 | false=>none) | none=>none) | _=>none) with
    | some (p,t,u,y)=>(match ord with | [j]=>(match ops[j]? with | some o2=>B2y T p t u y o2.dst A st k | none=>False) | _=>False)
    | none=>A6v ops o A
     (match eff.contains i with
      | true=>xOp P T M (inF frz o.dst) o.op A st fun v st'=>A1O A o.dst v fun A'=>ih A' st' k
      | false=>match ext.contains i with
       | true=>∃ v,(∀ st',Ext st st'→xOp P T M (inF frz o.dst) o.op A st' fun v' st''=>v'=v∧st''=st')∧A1O A o.dst v fun A'=>ih A' st k
       | false=>match B1i o.op with
        | true=>xOp P T M (inF frz o.dst) o.op A st fun v _=>A1O A o.dst v fun A'=>ih A' st k
        | false=>∃ v,(xOp P T M (inF frz o.dst) o.op A st fun v' st''=>v'=v∧st''=st)∧A1O A o.dst v fun A'=>ih A' st k)
     (A1O A o.dst (.tuple []) fun A'=>ih A' st k)) ord
theorem B9Z {P:Program} {T:G7} {M:J0} {frz:List Nat} {ops:List Oper} {eff ext:List Nat}:∀ l,D2E P T M frz ops eff ext l=B3b P T M frz ops eff ext l
 | []=>rfl
 | i::ord=>by
  funext A st k
  conv=>rhs;unfold B3b
  rw [←B9Z ord]
  rfl
noncomputable def C7r (P:Program) (T:G7) (M:J0) (frz:List Nat) (ops:List Oper) (t:OT):List AV→St→KA→Prop :=
 OT.rec (motive:=fun _=>List AV→St→KA→Prop) (fun A st k=>k A st)
  (fun i _ ih A st k=>B7c P T M frz ops i (fun A' st'=>ih A' st' k) A st)
  (fun i _ ih A st k=>C6Q P T M frz ops i (fun A' st'=>ih A' st' k) A st)
  (fun i j _ _ iht ihu A st k=>B7c P T M frz ops i (fun A' st'=>iht A' st' k) A st∧B7c P T M frz ops j (fun A' st'=>ihu A' st' k) A st) t
theorem A6x {P:Program} {T:G7} {M:J0} {frz:List Nat} {ops:List Oper}:∀ t,C7r P T M frz ops t=A7l P T M frz ops t
 | .done=>rfl
 | .gen i t=>by
  funext A st k
  conv=>rhs;unfold A7l
  rw [←A6x t];rfl
 | .qui i t=>by
  funext A st k
  conv=>rhs;unfold A7l
  rw [←A6x t];rfl
 | .two i j t u=>by
  funext A st k
  conv=>rhs;unfold A7l
  rw [←A6x t,←A6x u];rfl
noncomputable def yDr (P:Program) (T:G7) (M:J0) (frz:List Nat) (ops:List Oper) (A:List AV) (st:St) (k:KA):Prop :=
 ∃ eff ext ord:List Nat,match ord with
  | []=>∃ t:OT,(Region.noSelect ops.toArray&&okT ops.toArray eff t ops.length (Array.replicate ops.length false))=true∧C7r P T M frz ops t A st k
  | _::_=>(Region.noSelect ops.toArray&&B1x ops.toArray eff ext ord (Array.replicate ops.length false)&&(ord.length==ops.length))=true∧D2E P T M frz ops eff ext ord A st k
theorem C4R {P:Program} {T:G7} {M:J0} {frz:List Nat} {ops:List Oper} {A:List AV} {st:St} {k:KA}:yDr P T M frz ops A st k=xDr P T M frz ops A st k:=by
 unfold yDr xDr
 simp only [B9Z,A6x]
theorem A0 (st:St) (b:Nat) (x:K8):upd st b x b=some x:=by simp [upd]
theorem A9 {st:St} {b c:Nat} {x:K8} (h:c≠b):upd st b x c=st c:=by simp [upd,h]
theorem B6Z {st:St} {b c:Nat} {x:K8} (h:upd st b x c=none):c≠b∧st c=none:=by
 unfold upd at h
 split at h
 ·cases h
 ·rename_i e;exact ⟨e,h⟩
theorem A6W (st:St) (b:Nat) (x y:K8):upd (upd st b x) b y=upd st b y:=funext fun c=>by unfold upd;split<;>rfl
theorem A3H {st:St} {b:Nat} (h:st b=none) (x:K8):del (upd st b x) b=st:=funext fun c=>by
 unfold del upd
 split
 ·rename_i e;rw [e,h]
 ·rfl
theorem call {P:Program} {f:FuncId} {args:List AV} {st:St} {post k:KK} (h:S P f args st post) (hk:∀ v st',post v st'→k v st'):A1R P f args st k:=by
 refine ⟨?_⟩;unfold A3i;exact ⟨args,st,A7.refl _ _,h.mono hk⟩
theorem B3 {P:Program} {f:FuncId} {args:List AV} {st:St} {v:AV} {k:KK} (h:S P f args st fun v' st'=>v'=v∧st'=st) (hk:k v st):A1R P f args st k :=
 call h fun v' st' ⟨e1,e2⟩=>by rw [e1,e2];exact hk
theorem F7 {P:Program} {f:FuncId} {args args':List AV} {st st':St} {k:KK} (hs:A7 args st args' st') (h:A1R P f args' st' k):A1R P f args st k:=by
 refine ⟨?_⟩
 have h:=h.out
 unfold A3i at *
 obtain ⟨a,s,h1,h2⟩:=h
 exact ⟨a,s,hs.trans h1,h2⟩
end Go.Ab
