/- Part 11 of the proof: contracts of the functions that the law reaches -/
import Derived.Test.YtaapofnkmpiknaaGreatPl10
set_option linter.unusedVariables false
set_option linter.unusedSimpArgs false
namespace Go.Ab
open Go
def B0u:List AV→Nat→(AV→Prop)→Prop
 | [],_,k=>k .junk
 | a::_,0,k=>k a
 | _::xs,n+1,k=>B0u xs n k
def B5m:List AV→Nat→AV→(List AV→Prop)→Prop
 | [],_,_,k=>k []
 | _::xs,0,v,k=>k (v::xs)
 | a::xs,n+1,v,k=>B5m xs n v fun xs'=>k (a::xs')
def A1J (A:List AV) (d:Option Tmp) (v:AV) (k:List AV→Prop):Prop:=match d with | some i=>B5m A i v k | none=>k A
theorem A5f:∀ (A:List AV) (i:Nat) (k:AV→Prop),B0u A i k=k (A.getD i .junk)
 | [],_,k=>by simp [B0u]
 | a::xs,0,k=>by simp [B0u]
 | a::xs,n+1,k=>by rw [B0u,A5f xs n k];simp
theorem A8U:∀ (A:List AV) (i:Nat) (v:AV) (k:List AV→Prop),B5m A i v k=k (A.set i v)
 | [],_,v,k=>by simp [B5m]
 | a::xs,0,v,k=>by simp [B5m]
 | a::xs,n+1,v,k=>by rw [B5m,A8U xs n v];simp
theorem U4 (A:List AV) (d:Option Tmp) (v:AV) (k:List AV→Prop):A1J A d v k=k (K2 A d v):=by
 cases d with
 | none=>rfl
 | some i=>exact A8U A i v k
def C9Y (v:Value) (k:AV→Prop):Prop :=
 match v with
 | .bool b=>k (.bool b)
 | .int kk n=>k (.int kk n)
 | .string s=>k (.str s)
 | .pointer a=>(match a with | none=>k .nilp | some _=>k .junk)
 | .slice a l c=>(match a with | none=>(match l,c with | 0,0=>k .emp | _,_=>k .junk) | some _=>k .junk)
 | .nilFunc=>k .nilf
 | .nilIface=>k .nili
 | v=>k (H7 v)
theorem C6E (v:Value) (k:AV→Prop):C9Y v k=k (H7 v):=by
 cases v with
 | pointer a=>cases a<;>rfl
 | slice a l c=>cases a with
  | none=>cases l<;>cases c<;>rfl
  | some a=>rfl
 | _=>rfl
def evK (A:List AV) (x:Operand) (k:AV→Prop):Prop :=
 match x with
 | .tmp t=>B0u A t k
 | .const v=>C9Y v k
 | .global _=>k .junk
 | .func f=>k (.fn (.func f) [] [])
theorem A5c (A:List AV) (x:Operand) (k:AV→Prop):evK A x k=k (ev A x):=by
 cases x with
 | tmp t=>exact A5f A t k
 | const v=>exact C6E v k
 | _=>rfl
def C1c (A:List AV):List Operand→(List AV→Prop)→Prop
 | [],k=>k []
 | x::xs,k=>evK A x fun v=>C1c A xs fun vs=>k (v::vs)
theorem B9S (A:List AV):∀ (xs:List Operand) (k:List AV→Prop),C1c A xs k=k (xs.map (ev A))
 | [],k=>rfl
 | x::xs,k=>by simp only [C1c,A5c,B9S A xs,D7H]
def C1b (A:List AV):List (Nat×Operand)→(List (Nat×AV)→Prop)→Prop
 | [],k=>k []
 | p::ps,k=>evK A p.2 fun v=>C1b A ps fun vs=>k ((p.1,v)::vs)
theorem B0D (A:List AV):∀ (ps:List (Nat×Operand)) (k:List (Nat×AV)→Prop),C1b A ps k=k (ps.map fun p=>(p.1,ev A p.2))
 | [],k=>rfl
 | p::ps,k=>by simp only [C1b,A5c,B0D A ps,D7H]
def C6N (A:List AV) (x:Option Operand) (k:Option AV→Prop):Prop:=match x with | none=>k none | some y=>evK A y fun v=>k (some v)
theorem C6O (A:List AV) (x:Option Operand) (k:Option AV→Prop):C6N A x k=k (x.map (ev A)):=by
 cases x with
 | none=>rfl
 | some y=>exact A5c A y _
def A5B (b:Bool) (x y:Prop):Prop:=match b with | true=>x | false=>y
theorem A0y (b:Bool) (x y:Prop):A5B b x y↔(b=true→x)∧(b=false→y):=by cases b<;>simp [A5B]
theorem B9 {b:Bool} {x y:Prop} (h1:b=true→x) (h2:b=false→y):A5B b x y:=by cases b;exact h2 rfl;exact h1 rfl
structure A1M (P:Program) (f:FuncId) (args:List AV) (st:St) (k:KK):Prop where
 out:A3m P f args st k
def C3g:List AV→List AV→(List AV→Prop)→Prop
 | [],b,k=>k b
 | v::a,b,k=>C3g a b fun l=>k (v::l)
theorem A4V:∀ (a b:List AV) (k:List AV→Prop),C3g a b k=k (a++b)
 | [],b,k=>rfl
 | v::a,b,k=>by rw [C3g,A4V a b];rfl
def C3V:List AV→Nat→(Nat→Prop)→Prop
 | [],n,k=>k n
 | _::l,n,k=>C3V l (n+1) k
theorem C0a:∀ (l:List AV) (n:Nat) (k:Nat→Prop),C3V l n k=k (n+l.length)
 | [],n,k=>by simp [C3V]
 | a::l,n,k=>by rw [C3V,C0a l];simp [D9m,Nat.add_comm 1]
def B6z:List AV→List AV→(List AV→Prop)→Prop
 | cs,[],k=>k cs
 | _::cs,v::new,k=>B6z cs new fun r=>k (v::r)
 | [],_::_,k=>k []
def A7g:List AV→Nat→List AV→(List AV→Prop)→Prop
 | cs,0,new,k=>B6z cs new k
 | a::cs,n+1,new,k=>A7g cs n new fun r=>k (a::r)
 | [],_+1,_,k=>k []
theorem B6A:∀ (cs new:List AV) (k:List AV→Prop),new.length≤cs.length→B6z cs new k=k (new++cs.drop new.length)
 | cs,[],k,_=>by simp [B6z]
 | c::cs,v::new,k,h=>by rw [B6z,B6A cs new _ (by simpa using h)];simp
 | [],v::new,k,h=>by simp at h
theorem A7W:∀ (cs:List AV) (n:Nat) (new:List AV) (k:List AV→Prop),n+new.length≤cs.length→A7g cs n new k=k (cs.take n++new++cs.drop (n+new.length))
 | cs,0,new,k,h=>by rw [A7g,B6A cs new k (by omega)];simp
 | a::cs,n+1,new,k,h=>by
  rw [A7g,A7W cs n new _ (by simp at h;omega)]
  simp [show n+1+new.length=(n+new.length)+1 from by omega]
 | [],n+1,new,k,h=>by simp at h
def B4j (place:Nat→Option (Nat×Nat)):List (Nat×AV)→List AV→(List AV→Prop)→Prop
 | [],cells,k=>k cells
 | (i,v)::rest,cells,k=>match place i with
  | none=>False
  | some (off,size)=>match Nat.beq (cellsOf v).length size&&Nat.ble (off+size) cells.length&&(cellsOf v).all AV.one&&Nat.blt 0 size with
   | true=>A7g cells off (cellsOf v) fun cells'=>B4j place rest cells' k
   | false=>False
theorem A9c {place:Nat→Option (Nat×Nat)}:∀ (ps:List (Nat×AV)) (cells:List AV) (k:List AV→Prop),B4j place ps cells k→∃ out,A5y place cells ps=some out∧k out
 | [],cells,k,h=>⟨cells,rfl,h⟩
 | (i,v)::ps,cells,k,h=>by
  unfold B4j at h
  unfold A5y
  split at h
  ·exact h.elim
  ·rename_i off size hp
   rw [hp]
   simp only
   split at h
   ·rename_i hb
    simp only [D6I,Nat.beq_eq,Nat.ble_eq,D9o] at hb
    obtain ⟨⟨⟨h1,h2⟩,h3⟩,h4⟩:=hb
    rw [A7W _ _ _ _ (by omega)] at h
    rw [if_neg (by simp only [not_or,Decidable.not_not,D9c];exact ⟨h1,by omega,h3,by omega⟩)]
    rw [h1] at h
    exact A9c ps _ k h
   ·exact h.elim
def B9v (T:G9) (t:TypeId) (ps:List (Nat×AV)) (k:AV→Prop):Prop :=
 match T t with
 | none=>False
 | some r=>match r.desc with
  | .struct fs=>match places T fs.toList with
   | none=>False
   | some pl=>B4j (fun i=>pl[i]?) ps (cellsOf (H7 r.zero)) fun out=>k (.agg out)
  | .array n el=>match T el with
   | none=>False
   | some q=>B4j (fun i=>some (i * q.size,q.size)) ps (cellsOf (H7 r.zero)) fun out=>k (.agg out)
  | _=>False
theorem C2F {T:G9} {t:TypeId} {ps:List (Nat×AV)} {k:AV→Prop} (h:B9v T t ps k):A7C T t ps k:=by
 unfold B9v at h
 unfold A7C
 split at h
 ·exact h.elim
 ·rename_i r hr
  rw [hr]
  simp only
  split at h
  ·rename_i fs hd
   rw [hd]
   simp only
   split at h
   ·exact h.elim
   ·rename_i pl hp
    rw [hp]
    simp only
    obtain ⟨out,h1,h2⟩:=A9c _ _ _ h
    rw [h1];exact h2
  ·rename_i n el hd
   rw [hd]
   simp only
   split at h
   ·exact h.elim
   ·rename_i q hq
    rw [hq]
    simp only
    obtain ⟨out,h1,h2⟩:=A9c _ _ _ h
    rw [h1];exact h2
  ·exact h.elim
def A6A:Nat→List AV→(List AV→List AV→Prop)→Prop
 | 0,l,k=>k [] l
 | n+1,v::l,k=>A6A n l fun a b=>k (v::a) b
 | _+1,[],k=>k [] []
theorem A9R:∀ (n:Nat) (l:List AV) (k:List AV→List AV→Prop),A6A n l k=k (l.take n) (l.drop n)
 | 0,l,k=>by simp [A6A]
 | n+1,v::l,k=>by rw [A6A,A9R n l];simp
 | n+1,[],k=>by simp [A6A]
def B1t (agg:Bool) (e:Nat):Nat→List AV→(List AV→Prop)→Prop
 | 0,_,k=>k []
 | n+1,out,k=>match agg with
  | true=>A6A e out fun a b=>B1t agg e n b fun r=>k (.agg a::r)
  | false=>match out with
   | v::b=>B1t agg e n b fun r=>k (v::r)
   | []=>False
theorem B6g (agg:Bool) (e n:Nat) (out:List AV) (he:agg=false→e=1):A1f agg e (n+1) out=(if agg then .agg (out.take e) else out.getD 0 .junk)::A1f agg e n (out.drop e):=by
 unfold A1f
 rw [List.range_succ_eq_map,D7H,D8Y]
 congr 1
 ·cases agg<;>simp
 ·refine D7V fun i _=>?_
  cases agg with
  | true =>
   simp only [Function.comp,if_true]
   rw [List.drop_drop,show (i+1) * e=e+i * e from by rw [D8P];omega]
  | false =>
   have:=he rfl
   subst this
   simp
theorem A9s {agg:Bool} {e:Nat} (he:agg=false→e=1):∀ (n:Nat) (out:List AV) (k:List AV→Prop),B1t agg e n out k→k (A1f agg e n out)
 | 0,out,k,h=>h
 | n+1,out,k,h=>by
  unfold B1t at h
  rw [B6g agg e n out he]
  cases agg with
  | true =>
   simp only [A9R] at h
   exact A9s he n _ _ h
  | false =>
   simp only at h
   have:=he rfl
   subst this
   split at h
   ·rename_i v b;exact A9s he n _ _ h
   ·exact h.elim
def C7J (fz:Bool) (ty:TypeId) (v:AV) (st:St) (k:KK):Prop :=
 match Nat.blt 0 (cellsOf v).length&&(cellsOf v).all AV.one with
 | true=>(match fz with
  | true=>k (.fptr v 0) st
  | false=>C3V (cellsOf v) 0 fun n=>∀ b,st b=none→k (.optr n b 0 0) (upd st b ⟨ty,n,1,fun _=>v⟩))
 | false=>False
theorem C0G {fz:Bool} {ty:TypeId} {v:AV} {st:St} {k:KK} (h:C7J fz ty v st k):B7N ty v st k:=by
 unfold C7J at h
 split at h
 ·rename_i hb
  simp only [D6I,D9o] at hb
  cases fz with
  | true=>exact ⟨hb.1,hb.2,.inl h⟩
  | false =>
   simp only [C0a,D6Q] at h
   exact ⟨hb.1,hb.2,.inr h⟩
 ·exact h.elim
def C9C (fz:Bool) (T:G9) (t:TypeId) (len:Nat) (ps:List (Nat×AV)) (st:St) (k:KK):Prop :=
 match T t with
 | none=>False
 | some r=>match r.desc with
  | .slice el=>match T el with
   | none=>False
   | some q=>match Nat.blt 0 (len * q.size)&&Nat.ble (len * q.size) 16777216&&Nat.beq q.zero.cells.size q.size&&(q.agg||Nat.beq q.size 1) with
    | false=>False
    | true=>B4j (fun i=>some (i * q.size,q.size)) ps ((List.range (len * q.size)).map fun i=>(cellsOf (H7 q.zero)).getD (i % q.size) .junk) fun out=>match out.all AV.one with
    | false=>False
    | true=>B1t q.agg q.size len out fun els=>match fz with
     | false=>k (.arr q.size len (fun i=>els.getD i .junk)) st
     | true=>∀ b,st b=none→k (.own q.size b 0 len) (upd st b ⟨el,q.size,len,fun i=>els.getD i .junk⟩)
  | _=>False
theorem C7M {fz:Bool} {T:G9} {t:TypeId} {len:Nat} {ps:List (Nat×AV)} {st:St} {k:KK} (h:C9C fz T t len ps st k):A1p T t len ps st k:=by
 unfold C9C at h
 unfold A1p
 split at h
 ·exact h.elim
 ·rename_i r hr
  rw [hr]
  simp only
  split at h
  ·rename_i el hd
   rw [hd]
   simp only
   split at h
   ·exact h.elim
   ·rename_i q hq
    rw [hq]
    split at h
    ·exact h.elim
    rename_i hb
    simp only [D6I,D9o,Nat.ble_eq,Nat.beq_eq,D7J] at hb
    obtain ⟨⟨⟨h1,h2⟩,h3⟩,h4'⟩:=hb
    have h4:q.agg=false→q.size=1:=fun e=>h4'.resolve_left (by simp [e])
    refine ⟨h1,h2,h3,h4,?_⟩
    obtain ⟨out,ho,h⟩:=A9c _ _ _ h
    rw [ho]
    split at h
    ·exact h.elim
    rename_i hone
    have h:=A9s h4 _ _ _ h
    refine ⟨hone,?_⟩
    cases fz with
    | false=>exact .inl h
    | true=>exact .inr h
  ·exact h.elim
def C3K:List AV→Nat→(AV→Prop)→Prop
 | [],_,_=>False
 | a::_,0,k=>k a
 | _::xs,n+1,k=>C3K xs n k
theorem B9T:∀ (A:List AV) (i:Nat) (k:AV→Prop),C3K A i k→∃ y,A[i]?=some y∧k y
 | [],_,_,h=>h.elim
 | a::_,0,_,h=>⟨a,rfl,h⟩
 | _::xs,n+1,k,h=>by obtain ⟨y,h1,h2⟩:=B9T xs n k h;exact ⟨y,by simpa using h1,h2⟩
def A9d (r:C2) (cs:List AV) (o:Nat) (k:AV→Prop):Prop :=
 match r.agg with
 | true=>(match Nat.ble (o+r.size) cs.length with
  | true=>A6A o cs fun _ b=>A6A r.size b fun c _=>k (.agg c)
  | false=>False)
 | false=>C3K cs o k
theorem B2P {r:C2} {cs:List AV} {o:Nat} {k:AV→Prop} (h:A9d r cs o k):pick r cs o k:=by
 unfold A9d at h
 unfold pick
 split at h
 ·rename_i e
  rw [e]
  split at h
  ·rename_i hb
   simp only [A9R] at h
   exact ⟨by simpa using hb,h⟩
  ·exact h.elim
 ·rename_i e
  rw [e]
  obtain ⟨y,h1,h2⟩:=B9T _ _ _ h
  simp only
  rw [h1];exact h2
structure C2J (T:G9) (t:TypeId) (e b i o:Nat) (st:St) (k:KK):Prop where
 out:A3n T t (.optr e b i o) st k
def B7C (T:G9) (t:TypeId) (v:AV) (st:St) (k:KK):Prop :=
 match v with
 | .fptr v o=>(match T t with | some r=>A9d r (cellsOf v) o (fun y=>k y st) | none=>False)
 | .optr e b i o=>C2J T t e b i o st k
 | _=>False
theorem B2N {T:G9} {t:TypeId} {v:AV} {st:St} {k:KK} (h:B7C T t v st k):A3n T t v st k:=by
 unfold B7C at h
 split at h
 ·unfold A3n
  split at h
  ·rename_i hr;rw [hr];exact B2P h
  ·exact h.elim
 ·exact h.out
 ·exact h.elim
structure B7E (T:G9) (t:TypeId) (e b i o:Nat) (v:AV) (st:St) (k:KK):Prop where
 out:(match T t with | some r=>0<r.size | none=>False)∧A7F T t (.optr e b i o) v st k
def C5A (T:G9) (t:TypeId) (p v:AV) (st:St) (k:KK):Prop:=match p with | .optr e b i o=>B7E T t e b i o v st k | _=>False
structure A5L (T:G9) (t:TypeId) (s x:AV) (st:St) (k:KK):Prop where
 out:A4R T t s x st k
structure xMk (T:G9) (t:TypeId) (l c:AV) (st:St) (k:KK):Prop where
 out:B0Y T t l c st k
def B2M (T:G9) (b:Builtin) (args:List AV) (ts:List TypeId) (st:St) (k:KK):Prop :=
 match b with
 | .append=>match args,ts with
  | [s,x],[t,u]=>(match Nat.beq t u with | true=>A5L T t s x st k | false=>False)
  | _,_=>False
 | b=>A2r T b args ts st k
theorem B7z {T:G9} {b:Builtin} {args:List AV} {ts:List TypeId} {st:St} {k:KK} (h:B2M T b args ts st k):A2r T b args ts st k:=by
 unfold B2M at h
 split at h
 ·unfold A2r
  split at h
  ·split at h
   ·rename_i e;exact ⟨D8B e,h.out⟩
   ·exact h.elim
  ·exact h.elim
 ·exact h
def B5G (P:Program) (T:G9) (M:J2) (r:AV) (name:String) (args:List AV) (st:St) (k:KK):Prop :=
 match r with
 | .iface t v=>match M t name with
  | some (f,none)=>A1M P f (v::args) st k
  | some (f,some el)=>B7C T el v st (fun u st'=>A1M P f (u::args) st' k)
  | none=>False
 | _=>False
theorem B9y {P:Program} {T:G9} {M:J2} {r:AV} {name:String} {args:List AV} {st:St} {k:KK} (h:B5G P T M r name args st k):A6N P T M r name args st k:=by
 unfold B5G at h
 unfold A6N
 split at h
 ·rename_i t v
  simp only
  split at h
  ·rename_i f hf;rw [hf];exact h.out
  ·rename_i f el hf;rw [hf];exact A4S (k:=fun u st'=>A1M P f (u::args) st' k) (fun u hu=>hu.out) (B2N h)
  ·exact h.elim
 ·exact h.elim
def C9A (T:G9) (op:BinOp) (t:TypeId) (x y:AV) (k:AV→Prop):Prop :=
 match x,y,op with
 | .int kk a,.int _ b,.shl=>A5B (decide (b<0)) False (k (.int kk (kk.wrap (a * 2 ^ (min b.toNat kk.bits)))))
 | .int kk a,.int _ b,.shr=>A5B (decide (b<0)) False (k (.int kk (a.fdiv (2 ^ (min b.toNat kk.bits)))))
 | .int kk a,.int k' b,.quo=>match decide (kk=k') with | true=>A5B (decide (b=0)) False (k (.int kk (kk.wrap (a.tdiv b)))) | false=>False
 | .int kk a,.int k' b,.rem=>match decide (kk=k') with | true=>A5B (decide (b=0)) False (k (.int kk (a.tmod b))) | false=>False
 | x,y,op=>match B4p T op t x y with | some z=>k z | none=>False
theorem C7I {T:G9} {op:BinOp} {t:TypeId} {x y:AV} {k:AV→Prop} (h:C9A T op t x y k):match B4p T op t x y with | some z=>k z | none=>False:=by
 unfold C9A at h
 split at h
 ·obtain ⟨h1,h2⟩:=(A0y _ _ _).1 h
  rename_i kk a k' b
  by_cases hb:b<0
  ·exact (h1 (D7m hb)).elim
  ·simp only [B4p,A9g,if_neg hb];exact h2 (D6L hb)
 ·obtain ⟨h1,h2⟩:=(A0y _ _ _).1 h
  rename_i kk a k' b
  by_cases hb:b<0
  ·exact (h1 (D7m hb)).elim
  ·simp only [B4p,A9g,if_neg hb];exact h2 (D6L hb)
 ·rename_i kk a k' b
  by_cases hk:kk=k'
  ·rw [D7m hk] at h
   obtain ⟨h1,h2⟩:=(A0y _ _ _).1 h
   by_cases hb:b=0
   ·exact (h1 (D7m hb)).elim
   ·simp only [B4p,C5U,if_pos hk,if_neg hb];exact h2 (D6L hb)
  ·rw [D6L hk] at h;exact h.elim
 ·rename_i kk a k' b
  by_cases hk:kk=k'
  ·rw [D7m hk] at h
   obtain ⟨h1,h2⟩:=(A0y _ _ _).1 h
   by_cases hb:b=0
   ·exact (h1 (D7m hb)).elim
   ·simp only [B4p,C5U,if_pos hk,if_neg hb];exact h2 (D6L hb)
  ·rw [D6L hk] at h;exact h.elim
 ·exact h
def C5w (T:G9) (op:BinOp) (t:TypeId) (y:Operand) (vx vy:AV) (k:AV→Prop):Prop :=
 match C5V T op t y vx with
 | some z=>k z
 | none=>C9A T op t vx vy k
theorem C5x {T:G9} {op:BinOp} {t:TypeId} {y:Operand} {vx vy:AV} {k:AV→Prop} (h:C5w T op t y vx vy k):match B5L T op t y vx vy with | some z=>k z | none=>False:=by
 unfold C5w at h
 unfold B5L
 split at h
 ·rename_i z hz;rw [hz];exact h
 ·rename_i hz;rw [hz];exact C7I h
structure C9B (s:ByteArray) (j:Int) (k:AV→Prop):Prop where
 out:∃ h:0≤j∧j.toNat<s.size,k (.int .u8 ((s[j.toNat]'h.2).toNat:Int))
def B9x (T:G9) (t:TypeId) (v i:AV) (k:AV→Prop):Prop :=
 match T t with
 | none=>False
 | some r=>match r.desc,v,i with
  | .string,.str s,.int _ j=>C9B s j k
  | .array n el,.agg cs,.int _ j=>match T el with
   | none=>False
   | some q=>(q.agg=false∧j.toNat * q.size<cs.length∧0≤j∧j<n)∧B0u cs (j.toNat * q.size) k
  | _,_,_=>False
theorem C2I {T:G9} {t:TypeId} {v i:AV} {k:AV→Prop} (h:B9x T t v i k):A7E T t v i k:=by
 unfold B9x at h
 unfold A7E
 split at h
 ·exact h.elim
 rename_i r hr
 rw [hr]
 simp only
 split at h
 ·rename_i s kk j hd
  rw [hd]
  exact h.out
 ·rename_i n el cs kk j hd
  rw [hd]
  split at h
  ·exact h.elim
  ·rename_i q hq
   rw [A5f] at h
   simp only [hq]
   exact h
 ·exact h.elim
def C6I (n:Nat) (k:Nat→Prop):Prop :=
 match n with
 | 0=>k 0 | 1=>k 1 | 2=>k 2 | 3=>k 3 | 4=>k 4 | 5=>k 5 | 6=>k 6 | 7=>k 7 | 8=>k 8 | 9=>k 9 | 10=>k 10 | 11=>k 11 | 12=>k 12 | 13=>k 13 | 14=>k 14 | 15=>k 15 | 16=>k 16 | 17=>k 17 | 18=>k 18 | 19=>k 19 | 20=>k 20 | n=>k n
theorem C0e (n:Nat) (k:Nat→Prop):C6I n k=k n:=by unfold C6I;split<;>rfl
def A8b (T:G9) (s:TypeId) (p:AV) (f:Nat) (k:AV→Prop):Prop :=
 match T s with
 | none=>False
 | some r=>match r.desc with
  | .struct fs=>match fs[f]? with
   | none=>False
   | some fl=>match T fl.type with
    | none=>False
    | some q=>match Nat.blt 0 q.size with
     | true=>(match p with
      | .fptr v o=>C6I (o+fl.offset) fun o'=>k (.fptr v o')
      | .optr e b i o=>C6I (o+fl.offset) fun o'=>k (.optr e b i o')
      | _=>False)
     | false=>False
  | _=>False
theorem B3m {T:G9} {s:TypeId} {p:AV} {f:Nat} {k:AV→Prop} (h:A8b T s p f k):A1d T s p f k:=by
 unfold A8b at h
 unfold A1d
 split at h
 ·exact h.elim
 rename_i r hr
 rw [hr]
 simp only
 split at h
 case h_2=>exact h.elim
 rename_i fs hd
 rw [hd]
 simp only
 split at h
 ·exact h.elim
 rename_i fl hf
 rw [hf]
 simp only
 split at h
 ·exact h.elim
 rename_i q hq
 rw [hq]
 simp only
 split at h
 ·rename_i hb
  refine ⟨by simpa using hb,?_⟩
  split at h
  ·rw [C0e] at h;exact h
  ·rw [C0e] at h;exact h
  ·exact h.elim
 ·exact h.elim
def B9w (T:G9) (s:TypeId) (v:AV) (f:Nat) (k:AV→Prop):Prop :=
 match T s with
 | none=>False
 | some r=>match r.desc with
  | .struct fs=>match fs[f]? with
   | none=>False
   | some fl=>match T fl.type with
    | none=>False
    | some q=>match v with
     | .agg cs=>A9d q cs fl.offset k
     | _=>False
  | _=>False
theorem C2H {T:G9} {s:TypeId} {p:AV} {f:Nat} {k:AV→Prop} (h:B9w T s p f k):A7D T s p f k:=by
 unfold B9w at h
 unfold A7D
 split at h
 ·exact h.elim
 rename_i r hr
 rw [hr]
 simp only
 split at h
 case h_2=>exact h.elim
 rename_i fs hd
 rw [hd]
 simp only
 split at h
 ·exact h.elim
 rename_i fl hf
 rw [hf]
 simp only
 split at h
 ·exact h.elim
 rename_i q hq
 rw [hq]
 simp only
 split at h
 ·exact B2P h
 ·exact h.elim
def xOp (P:Program) (T:G9) (M:J2) (fz:Bool) (op:Op) (A:List AV) (st:St) (k:KK):Prop :=
 match op with
 | .move x=>evK A x fun v=>k v st
 | .assign x=>evK A x fun v=>k v st
 | .pick c x y=>evK A c fun v=>match v with | .bool b=>A5B b (evK A x fun u=>k u st) (evK A y fun u=>k u st) | _=>False
 | .binOp op t x y _=>evK A x fun v=>evK A y fun u=>C5w T op t y v u (fun z=>k z st)
 | .unOp op _ x=>evK A x fun v=>match aUn op v with | some z=>k z st | none=>False
 | .load t x=>evK A x fun v=>B7C T t v st k
 | .store t x y=>evK A x fun v=>evK A y fun u=>C5A T t v u st k
 | .alloc t=>match T t with | some r=>C7J fz t (H7 r.zero) st k | none=>False
 | .box t x=>evK A x fun v=>C7J fz t v st k
 | .build t ps=>C1b A ps.toList fun vs=>B9v T t vs (fun v=>k v st)
 | .buildSlice t n ps=>match n with
  | 0=>C1b A ps.toList fun vs=>B5O T t vs st k
  | m+1=>C1b A ps.toList fun vs=>C9C fz T t (m+1) vs st k
 | .nilCheck x=>evK A x fun v=>match A6O v with | true=>k v st | false=>False
 | .convert s d x=>evK A x fun v=>match A8j T s d v with | some z=>k z st | none=>False
 | .makeInterface t x=>evK A x fun v=>match B4F T t with | true=>k (.iface t v) st | false=>False
 | .makeFunc fn fs cs=>C1c A fs.toList fun us=>C1c A cs.toList fun vs=>k (.fn fn us vs) st
 | .makeSlice t l c=>evK A l fun v=>evK A c fun u=>xMk T t v u st k
 | .slice t x lo hi mx=>evK A x fun v=>C6N A lo fun l=>C6N A hi fun h=>C6N A mx fun m=>A9h T t v l h m (fun v=>k v st)
 | .fieldAddr s x f=>evK A x fun v=>A8b T s v f (fun v=>k v st)
 | .field s x f=>evK A x fun v=>B9w T s v f (fun v=>k v st)
 | .indexAddr t x i=>evK A x fun v=>evK A i fun u=>A1T T t v u (fun v=>k v st)
 | .index t x i=>evK A x fun v=>evK A i fun u=>B9x T t v u (fun v=>k v st)
 | .typeAssert x _ t ok=>evK A x fun v=>match B0B T v t ok with | some z=>k z st | none=>False
 | .extract x i=>evK A x fun v=>A4o v i (fun v=>k v st)
 | .call c=>C1c A c.args.toList fun args=>match c.callee with
  | .builtin b=>B2M T b args c.argTypes.toList st k
  | .invoke r name=>evK A r fun v=>B5G P T M v name args st k
  | .value f=>evK A f fun v=>match v with
   | .fn g fs cs=>(match g with | .func n=>C3g fs args fun l=>C3g l cs fun l=>A1M P n l st k | _=>False)
   | _=>False
 | _=>False
theorem A3I {P:Program} {T:G9} {M:J2} {fz:Bool} {o:Oper} {A:List AV} {st:St} {k:KK} (h:xOp P T M fz o.op A st k):aOp P T M o A st k:=by
 obtain ⟨dst,op,type,pos,after,guard⟩:=o
 unfold aOp
 cases op<;>simp only [xOp,A5c,B9S,B0D,C6O,A4V] at h ⊢<;>try exact h
 case alloc t =>
  split at h
  ·rename_i r hr;rw [hr];exact C0G h
  ·exact h.elim
 case box t x=>exact C0G h
 case fieldAddr t x f=>exact B3m h
 case field t x f=>exact C2H h
 case binOp op t x y _=>exact C5x h
 case index t x f=>exact C2I h
 case load t x=>exact B2N h
 case store t x y =>
  unfold C5A at h
  split at h
  ·rename_i hv;rw [hv];exact h.out
  ·exact h.elim
 case makeSlice t l c=>exact h.out
 case build t ps=>exact C2F h
 case buildSlice t n ps =>
  cases n with
  | zero=>simp only [B0D] at h;exact h
  | succ m=>simp only [B0D] at h;exact C7M h
 case pick c x y =>
  split at h
  ·rename_i b hb
   simp only [hb]
   exact (A0y _ _ _).1 h
  ·exact h.elim
 case nilCheck x =>
  split at h
  ·rename_i hb;exact ⟨hb,h⟩
  ·exact h.elim
 case makeInterface t x =>
  split at h
  ·rename_i hb;exact ⟨hb,h⟩
  ·exact h.elim
 case call c =>
  obtain ⟨callee,args,ts⟩:=c
  cases callee with
  | builtin b=>exact B7z h
  | invoke r name=>simp only [A5c] at h;exact B9y h
  | value f =>
   simp only [A5c,A4V] at h
   simp only [A4T]
   split at h
   ·rename_i g fs cs hf
    rw [hf]
    simp only
    split at h
    ·exact h.out
    ·exact h.elim
   ·exact h.elim
def A6I (ops:List Oper) (o:Oper) (A:List AV) (x y:Prop):Prop :=
 match o.guard with
 | none=>x
 | some (g,want)=>match ops[g]? with
  | none=>y
  | some p=>match p.dst with
   | none=>y
   | some d=>B0u A d fun v=>match v with
    | .bool b=>(match want with | true=>A5B b x y | false=>A5B b y x)
    | .tuple _=>y
    | _=>False
theorem A4L {ops:List Oper} {o:Oper} {A:List AV} {x y:Prop} (h:A6I ops o A x y):∃ b,A0T ops o A=some b∧(b=true→x)∧(b=false→y):=by
 unfold A6I at h
 unfold A0T
 split at h
 ·rename_i hg;exact ⟨true,by simp [hg],fun _=>h,fun e=>by cases e⟩
 ·rename_i g want hg
  simp only [hg]
  split at h
  ·rename_i hp;exact ⟨false,by simp [hp],(fun e=>by cases e),fun _=>h⟩
  ·rename_i p hp
   simp only [hp]
   split at h
   ·rename_i hd;exact ⟨false,by simp [hd],(fun e=>by cases e),fun _=>h⟩
   ·rename_i d hd
    simp only [hd]
    rw [A5f] at h
    rw [D6D] at h
    cases hA:A[d]? with
    | none=>exact ⟨false,by simp,(fun e=>by cases e),fun _=>by rw [hA] at h;exact h.elim⟩
    | some v =>
     rw [hA] at h
     simp only [Option.getD_some] at h
     split at h
     ·rename_i b
      cases want with
      | true=>exact ⟨b,by simp,(A0y _ _ _).1 h⟩
      | false=>exact ⟨!b,by simp,fun e=>((A0y _ _ _).1 h).2 (by simpa using e),fun e=>((A0y _ _ _).1 h).1 (by simpa using e)⟩
     ·exact ⟨false,rfl,(fun e=>by cases e),fun _=>h⟩
     ·exact h.elim
def inF (frz:List Nat) (d:Option Tmp):Bool:=match d with | some p=>frz.contains p | none=>false
def A6k (frz:List Nat) (o1 o2:Oper):Option (Tmp×TypeId×TypeId×Operand) :=
 match o1.guard,o2.guard with
 | none,none=>match o1.op,o1.dst,o2.op with
  | .alloc t,some p,.store u (.tmp q) y=>(match Nat.beq p q&&frz.contains p with | true=>some (p,t,u,y) | false=>none)
  | _,_,_=>none
 | _,_=>none
theorem B8j {rd:Addr→Option Value} {sz:Nat→Nat} {v v':AV} {r:Nat} {c:Value} (he:cellsOf v=cellsOf v') (h:Rep rd sz (.fptr v r) c):Rep rd sz (.fptr v' r) c:=by
 cases h with
 | fptr v r a g hr hg=>exact .fptr v' r a g (fun j hj=>hr j (by rw [he];exact hj)) (fun j y hy=>hg j y (by rw [he];exact hy))
theorem C6m {A:List AV} {st:St} {p b:Nat} {d:Option Tmp} {x y:K4} {v:AV} {e:Nat} (hb:st b=none) (hn:0<y.n) (hv:cellsOf (y.f 0)=cellsOf v) (hp:p<A.length) (hd:d≠some p) :
  A5U (K2 (K2 A (some p) (.optr e b 0 0)) d (.tuple [])) (upd (upd st b x) b y) (K2 (K2 A (some p) (.fptr v 0)) d (.tuple [])) st:=by
 intro w a hA hS
 have hst:upd (upd st b x) b y b=some y:=by simp [upd]
 have hne:∀ c,c≠b→upd (upd st b x) b y c=st c:=fun c hc=>by simp [upd,hc]
 have he:Evo (upd (upd st b x) b y) w st w:=⟨rfl,rfl,rfl,D6M _,fun c _ hs=>⟨rfl,by
  by_cases hc:c=b
  ·subst hc;exact hb
  ·rw [hne c hc] at hs;exact hs⟩,fun _=>D6M _⟩
 obtain ⟨cs,hok⟩:=hS b y hst
 refine ⟨⟨by have:=hA.len;simp [K2] at this ⊢;cases d<;>simp_all,fun i u hu=>?_,hA.defers⟩,fun c z hz=>?_,he⟩
 ·by_cases hi:i=p
  ·subst hi
   have hpt:(K2 (K2 A (some i) (.optr e b 0 0)) d (.tuple []))[i]?=some (.optr e b 0 0):=by
    cases d with
    | none=>simp [K2,hp]
    | some q=>simp only [K2];rw [D8w (fun h=>hd (by rw [h]))];simp [hp]
   have hpt':(K2 (K2 A (some i) (.fptr v 0)) d (.tuple []))[i]?=some (.fptr v 0):=by
    cases d with
    | none=>simp [K2,hp]
    | some q=>simp only [K2];rw [D8w (fun h=>hd (by rw [h]))];simp [hp]
   rw [hpt'] at hu
   cases hu
   obtain ⟨c,hc1,hc2⟩:=hA.at_ i _ hpt
   refine ⟨c,hc1,?_⟩
   cases hc2
   have:=B8j hv (B0a (hok.evo he rfl) hb hn)
   simpa using this
  ·have hsame:(K2 (K2 A (some p) (.optr e b 0 0)) d (.tuple []))[i]?=(K2 (K2 A (some p) (.fptr v 0)) d (.tuple []))[i]?:=by
    cases d with
    | none=>simp only [K2];rw [D8w (fun h=>hi h.symm),D8w (fun h=>hi h.symm)]
    | some q =>
     simp only [K2,D8G,D7W]
     rw [if_neg (show ¬ p=i from fun h=>hi h.symm),if_neg (show ¬ p=i from fun h=>hi h.symm)]
   rw [←hsame] at hu
   obtain ⟨c,hc1,hc2⟩:=hA.at_ i u hu
   exact ⟨c,hc1,he.rep hc2⟩
 ·have hc:c≠b:=fun h=>by rw [h,hb] at hz;cases hz
  obtain ⟨ds,hd'⟩:=hS c z (by rw [hne c hc];exact hz)
  exact ⟨ds,hd'.evo he rfl⟩
def B8z (d:Option Tmp) (p:Tmp):Bool:=match d with | some q=>!Nat.beq q p | none=>true
def C0g (y:Operand) (p:Tmp):Bool:=match y with | .tmp q=>!Nat.beq q p | _=>true
theorem C1w {d:Option Tmp} {p:Tmp} (h:B8z d p=true):d≠some p:=fun e=>by subst e;simp [B8z] at h
theorem B6t {y:Operand} {p:Tmp} (h:C0g y p=true):y≠.tmp p:=fun e=>by subst e;simp [C0g] at h
def B2O (T:G9) (p:Tmp) (t u:TypeId) (y:Operand) (d:Option Tmp) (A:List AV) (st:St) (k:KA):Prop :=
 match T t,T u with
 | some r,some q=>evK A y fun v=>match Nat.blt p A.length&&B8z d p&&Nat.blt 0 q.size&&Nat.beq (cellsOf (H7 r.zero)).length q.size&&(cellsOf (H7 r.zero)).all AV.one&&Nat.beq (cellsOf v).length q.size&&(cellsOf v).all AV.one&&C0g y p with
   | true=>B5m A p (.fptr v 0) fun A'=>A1J A' d (.tuple []) fun A''=>k A'' st
   | false=>False
 | _,_=>False
theorem B5l {v:AV} {cs:List AV} (h:cs.length=(cellsOf v).length) (h1:cs.all AV.one=true) (h2:0<cs.length):cellsOf (Q2 v 0 cs)=cs:=by
 rw [A6w (by omega) h1 h2]
 simp [h]
theorem A6G {P:Program} {T:G9} {M:J2} {frz:List Nat} {o1 o2:Oper} {p:Tmp} {t u:TypeId} {y:Operand} (hp:A6k frz o1 o2=some (p,t,u,y)) {A:List AV} {st:St} {k:KA} (h:B2O T p t u y o2.dst A st k) :
  o1.guard=none∧o2.guard=none∧aOp P T M o1 A st fun v st'=>aOp P T M o2 (K2 A o1.dst v) st' fun v' st''=>A5J k (K2 (K2 A o1.dst v) o2.dst v') st'':=by
 unfold A6k at hp
 split at hp
 case h_2=>cases hp
 rename_i hg1 hg2
 split at hp
 case h_2=>cases hp
 rename_i t' p' u' q' y' ho1 hd1 ho2
 split at hp
 case h_2=>cases hp
 rename_i hb
 cases hp
 simp only [D6I] at hb
 obtain rfl:=D8B hb.1
 refine ⟨hg1,hg2,?_⟩
 unfold B2O at h
 split at h
 case h_2=>exact h.elim
 rename_i r q hr hq
 rw [A5c] at h
 split at h
 case h_2=>exact h.elim
 rename_i hb
 simp only [D6I,D9o,Nat.beq_eq] at hb
 obtain ⟨⟨⟨⟨⟨⟨⟨hlt,hd⟩,hq0⟩,hz1⟩,hz2⟩,hv1⟩,hv2⟩,hy⟩:=hb
 have hd:=C1w hd
 have hy:=B6t hy
 rw [A8U,U4] at h
 have hk:=h
 unfold aOp
 rw [ho1,ho2,hd1]
 simp only [hr,hq]
 refine ⟨by omega,hz2,.inr fun b hb=>⟨hq0,?_⟩⟩
 have hevp:ev (K2 A (some p) (.optr (cellsOf (H7 r.zero)).length b 0 0)) (.tmp p)=.optr (cellsOf (H7 r.zero)).length b 0 0:=by
  simp [ev,K2,hlt]
 have hevy:ev (K2 A (some p) (.optr (cellsOf (H7 r.zero)).length b 0 0)) y=ev A y:=B8e fun t ht hyt=>by
  cases ht;exact hy hyt
 unfold A7F
 simp only [hq,hevp,hevy]
 have hst:upd st b ⟨t,(cellsOf (H7 r.zero)).length,1,fun _=>H7 r.zero⟩ b=some ⟨t,(cellsOf (H7 r.zero)).length,1,fun _=>H7 r.zero⟩:=by simp [upd]
 rw [hst]
 refine ⟨rfl,Nat.one_pos,hv1,hv2,by simp only;omega,_,_,C6m hb Nat.one_pos ?_ hlt hd,hk⟩
 simp only [I4,if_true]
 exact B5l (by omega) hv2 (by omega)
def A9a (frz:List Nat) (o om o2:Oper):Option (Tmp×Operand×Tmp×TypeId×TypeId×Operand) :=
 match om.guard,om.op,om.dst,A6k frz o o2 with
 | none,.assign x,some m,some (p,t,u,y)=>(match !Nat.beq m p&&C0g x p with | true=>some (m,x,p,t,u,y) | false=>none)
 | _,_,_,_=>none
def B0U (T:G9) (m:Tmp) (x:Operand) (p:Tmp) (t u:TypeId) (y:Operand) (d:Option Tmp) (A:List AV) (st:St) (k:KA):Prop :=
 evK A x fun v=>B5m A m v fun A1=>B2O T p t u y d A1 st k
theorem B2X {P:Program} {T:G9} {M:J2} {o:Oper} {t:TypeId} (ho:o.op=.alloc t) {A B:List AV} {st:St} {k:KK} (h:aOp P T M o A st k):aOp P T M o B st k:=by
 unfold aOp at *
 rw [ho] at h ⊢
 exact h
theorem B3o {P:Program} {T:G9} {M:J2} {frz:List Nat} {o1 om o2:Oper} {m p:Tmp} {x:Operand} {t u:TypeId} {y:Operand} (hp:A9a frz o1 om o2=some (m,x,p,t,u,y)) {A:List AV} {st:St} {k:KA} (h:B0U T m x p t u y o2.dst A st k) :
  o1.guard=none∧om.guard=none∧o2.guard=none∧aOp P T M o1 A st fun v st'=>aOp P T M om (K2 A o1.dst v) st' fun v1 st1=>aOp P T M o2 (K2 (K2 A o1.dst v) om.dst v1) st1 fun v' st''=>A5J k (K2 (K2 (K2 A o1.dst v) om.dst v1) o2.dst v') st'':=by
 unfold A9a at hp
 split at hp
 case h_2=>cases hp
 rename_i x' m' p' t' u' y' hg hop hdst hpr
 split at hp
 case h_2=>cases hp
 rename_i hb
 cases hp
 simp only [D6I,D6X] at hb
 have hmp:m≠p:=fun e=>by subst e;simp at hb
 have hxp:x≠.tmp p:=B6t hb.2
 unfold B0U at h
 rw [A5c,A8U] at h
 obtain ⟨g1,g2,h1⟩:=A6G (P:=P) (M:=M) hpr h
 have hal:∃ t0,o1.op=.alloc t0∧o1.dst=some p:=by
  unfold A6k at hpr
  split at hpr
  case h_2=>cases hpr
  split at hpr
  case h_2=>cases hpr
  rename_i t0 p0 u0 q0 y0 ho1 hd1 ho2
  split at hpr
  case h_2=>cases hpr
  cases hpr
  exact ⟨_,ho1,hd1⟩
 obtain ⟨t0,ho1,hd1⟩:=hal
 refine ⟨g1,hg,g2,R8 (fun v st' h2=>?_) (B2X (B:=A) ho1 h1)⟩
 have e1:ev (K2 A (some p) v) x=ev A x:=B8e fun t ht hx=>by cases ht;exact hxp hx
 have e2:K2 (K2 A (some p) v) (some m) (ev A x)=K2 (A.set m (ev A x)) (some p) v:=by
  have:=A7a A (x:=some p) (y:=some m) v (ev A x) (fun d hd e=>by cases hd;cases e;exact hmp rfl)
  exact this
 rw [hd1] at h2 ⊢
 rw [hdst]
 unfold aOp
 rw [hop]
 simp only [e1,e2]
 exact h2
def C2K (P:Program) (T:G9) (M:J2) (frz:List Nat) (ops:List Oper):List Oper→List AV→St→KA→Prop
 | [],A,st,k=>k A st
 | o::rest,A,st,k=>match (match rest with | [o2]=>A6k frz o o2 | _=>none) with
  | some (p,t,u,y)=>(match rest with | [o2]=>B2O T p t u y o2.dst A st k | _=>False)
  | none=>match (match rest with | [om,o2]=>A9a frz o om o2 | _=>none) with
  | some (m,x,p,t,u,y)=>(match rest with | [_,o2]=>B0U T m x p t u y o2.dst A st k | _=>False)
  | none=>A6I ops o A
   (xOp P T M (inF frz o.dst) o.op A st fun v st'=>A1J A o.dst v fun A'=>C2K P T M frz ops rest A' st' k)
   (A1J A o.dst (.tuple []) fun A'=>C2K P T M frz ops rest A' st k)
theorem A4p {P:Program} {T:G9} {M:J2} {ops:List Oper} {o:Oper} {rest:List Oper} {A:List AV} {st:St} {k:KA} (hg:o.guard=none) (h:aOp P T M o A st fun v st'=>A9f P T M ops rest (K2 A o.dst v) st' k):A9f P T M ops (o::rest) A st k:=by
 unfold A9f A0T
 rw [hg]
 exact ⟨fun _=>h,fun e=>by cases e⟩
theorem B0T {P:Program} {T:G9} {M:J2} {frz:List Nat} {ops:List Oper}:∀ (l:List Oper) (A:List AV) (st:St) (k:KA),C2K P T M frz ops l A st k→A9f P T M ops l A st (A5J k)
 | [],A,st,k,h=>⟨A,st,A5U.refl A st,h⟩
 | o::rest,A,st,k,h=>by
  unfold C2K at h
  split at h
  ·rename_i p t u y hp
   split at hp
   ·rename_i o2
    obtain ⟨g1,g2,h1⟩:=A6G (P:=P) (M:=M) hp h
    exact A4p g1 (R8 (fun v st' h2=>A4p g2 h2) h1)
   ·cases hp
  ·split at h
   ·rename_i m x p t u y hp
    split at hp
    ·rename_i om o2
     obtain ⟨g1,g2,g3,h1⟩:=B3o (P:=P) (M:=M) hp h
     exact A4p g1 (R8 (fun v st' h2=>A4p g2 (R8 (fun v1 st1 h3=>A4p g3 h3) h2)) h1)
    ·cases hp
   obtain ⟨b,hb,h1,h2⟩:=A4L h
   unfold A9f
   rw [hb]
   refine ⟨fun e=>R8 (fun v st' hk=>?_) (A3I (h1 e)),fun e=>?_⟩
   ·rw [U4] at hk;exact B0T rest _ _ _ hk
   ·have:=h2 e;rw [U4] at this;exact B0T rest _ _ _ this
def B1v (op:Op):Bool:=A1g op||(match op with | .load ..=>true | _=>false)
theorem B6D {r:C2} {cs:List AV} {i:Nat} {k:AV→Prop} (h:pick r cs i k):∃ v,(pick r cs i fun v'=>v'=v)∧k v:=by
 unfold pick at *
 split at h
 ·exact ⟨_,⟨h.1,rfl⟩,h.2⟩
 ·split at h
  ·exact ⟨_,rfl,h⟩
  ·exact h.elim
theorem B4B {P:Program} {T:G9} {M:J2} {o:Oper} (hd:B1v o.op=true) {A:List AV} {st:St} {k:KK} (h:aOp P T M o A st k):∃ v,(aOp P T M o A st fun v' s=>v'=v∧s=st)∧k v st:=by
 unfold aOp at *
 split at h
 all_goals repeat' first
  | exact h.elim
  | exact ⟨_,⟨rfl,rfl⟩,h⟩
  | exact ⟨_,⟨h.1,rfl,rfl⟩,h.2⟩
  | exact ⟨_,⟨h.1,h.2.1,rfl,rfl⟩,h.2.2⟩
  | exact ⟨_,⟨h.1,h.2.1,h.2.2.1,rfl,rfl⟩,h.2.2.2⟩
  | exact ⟨_,⟨h.1,h.2.1,h.2.2.1,h.2.2.2.1,rfl,rfl⟩,h.2.2.2.2⟩
  | (obtain ⟨v,h1,h2⟩:=B6D h;exact ⟨v,A4A (fun v' e=>⟨e,rfl⟩) h1,h2⟩)
  | (obtain ⟨v,h1,h2⟩:=B6D h.2.2;exact ⟨v,⟨h.1,h.2.1,A4A (fun v' e=>⟨e,rfl⟩) h1⟩,h2⟩)
  | (obtain ⟨h0,h⟩:=h;split at h<;>first | exact h.elim | exact ⟨_,⟨h0,rfl,rfl⟩,h⟩)
  | (rename_i b hb;cases b;exact ⟨_,⟨(fun e=>by cases e),fun _=>⟨rfl,rfl⟩⟩,h.2 rfl⟩;exact ⟨_,⟨fun _=>⟨rfl,rfl⟩,fun e=>by cases e⟩,h.1 rfl⟩)
  | split at h
  | unfold A3n at h ⊢ | unfold A7C at h ⊢ | unfold A9h at h ⊢ | unfold A1d at h ⊢ | unfold A7D at h ⊢ | unfold A1T at h ⊢ | unfold A7E at h ⊢ | unfold A4o at h ⊢ | unfold A2r at h ⊢
  | (exfalso;clear h;simp_all [B1v,A1g];done)
def B3n (P:Program) (T:G9) (M:J2) (frz:List Nat) (ops:List Oper) (eff ext:List Nat):List Nat→List AV→St→KA→Prop
 | [],A,st,k=>k A st
 | i::ord,A,st,k=>match ops[i]? with
  | none=>False
  | some o=>match (match ord with | [j]=>(match ops[j]? with | some o2=>(match eff.contains i&&eff.contains j with | true=>A6k frz o o2 | false=>none) | none=>none) | _=>none) with
   | some (p,t,u,y)=>(match ord with | [j]=>(match ops[j]? with | some o2=>B2O T p t u y o2.dst A st k | none=>False) | _=>False)
   | none=>A6I ops o A
    (match eff.contains i with
     | true=>xOp P T M (inF frz o.dst) o.op A st fun v st'=>A1J A o.dst v fun A'=>B3n P T M frz ops eff ext ord A' st' k
     | false=>match ext.contains i with
      | true=>∃ v,(∀ st',Ext st st'→xOp P T M (inF frz o.dst) o.op A st' fun v' st''=>v'=v∧st''=st')∧A1J A o.dst v fun A'=>B3n P T M frz ops eff ext ord A' st k
      | false=>match B1v o.op with
       | true=>xOp P T M (inF frz o.dst) o.op A st fun v _=>A1J A o.dst v fun A'=>B3n P T M frz ops eff ext ord A' st k
       | false=>∃ v,(xOp P T M (inF frz o.dst) o.op A st fun v' st''=>v'=v∧st''=st)∧A1J A o.dst v fun A'=>B3n P T M frz ops eff ext ord A' st k)
    (A1J A o.dst (.tuple []) fun A'=>B3n P T M frz ops eff ext ord A' st k)
theorem A7k {P:Program} {T:G9} {M:J2} {frz:List Nat} {ops:List Oper} {eff ext:List Nat}:∀ (ord:List Nat) (A:List AV) (st:St) (k:KA),B3n P T M frz ops eff ext ord A st k→B1o P T M ops eff ext ord A st (A5J k)
 | [],A,st,k,h=>⟨A,st,A5U.refl A st,h⟩
 | i::ord,A,st,k,h=>by
  unfold B3n at h
  cases ho:ops[i]? with
  | none=>rw [ho] at h;exact h.elim
  | some o =>
   rw [ho] at h
   simp only at h
   split at h
   ·rename_i p t u y hp
    split at hp
    ·rename_i j
     split at hp
     ·rename_i o2 ho2
      split at hp
      ·rename_i hee
       simp only [D6I] at hee
       simp only [ho2] at h
       obtain ⟨g1,g2,h1⟩:=A6G (P:=P) (M:=M) hp h
       unfold B1o
       rw [ho]
       have w1:A0T ops o A=some true:=by unfold A0T;rw [g1]
       simp only [w1]
       refine ⟨fun _=>?_,fun e=>by cases e⟩
       rw [hee.1]
       refine R8 (fun v st' h2=>?_) h1
       unfold B1o
       rw [ho2]
       have w2:A0T ops o2 (K2 A o.dst v)=some true:=by unfold A0T;rw [g2]
       simp only [w2]
       refine ⟨fun _=>?_,fun e=>by cases e⟩
       rw [hee.2]
       exact R8 (fun v' st'' h3=>h3) h2
      ·cases hp
     ·cases hp
    ·cases hp
   ·unfold B1o
    rw [ho]
    simp only
    obtain ⟨b,hb,h1,h2⟩:=A4L h
    rw [hb]
    simp only
    refine ⟨fun e=>?_,fun e=>?_⟩
    ·have h1:=h1 e
     split at h1
     ·rename_i hc
      rw [hc]
      exact R8 (fun v st' hk=>by rw [U4] at hk;exact A7k ord _ _ _ hk) (A3I h1)
     ·rename_i hc
      rw [hc]
      simp only
      split at h1
      ·rename_i hx
       rw [hx]
       obtain ⟨v,hv,hk⟩:=h1
       rw [U4] at hk
       exact ⟨v,fun st' hs=>A3I (hv st' hs),A7k ord _ _ _ hk⟩
      ·rename_i hx
       rw [hx]
       simp only
       split at h1
       ·rename_i hdet
        obtain ⟨v,hv,hk⟩:=B4B hdet (A3I h1)
        rw [U4] at hk
        exact ⟨v,hv,A7k ord _ _ _ hk⟩
       ·obtain ⟨v,hv,hk⟩:=h1
        rw [U4] at hk
        exact ⟨v,A3I hv,A7k ord _ _ _ hk⟩
    ·have:=h2 e
     rw [U4] at this
     exact A7k ord _ _ _ this
def B7B (P:Program) (T:G9) (M:J2) (frz:List Nat) (ops:List Oper) (i:Nat) (K:KA) (A:List AV) (st:St):Prop :=
 match ops[i]? with
 | none=>False
 | some o=>A6I ops o A (xOp P T M (inF frz o.dst) o.op A st fun v st'=>A1J A o.dst v fun A'=>K A' st') (A1J A o.dst (.tuple []) fun A'=>K A' st)
def C7K (P:Program) (T:G9) (M:J2) (frz:List Nat) (ops:List Oper) (i:Nat) (K:KA) (A:List AV) (st:St):Prop :=
 match ops[i]? with
 | none=>False
 | some o=>A6I ops o A
  (match B1v o.op with
   | true=>xOp P T M (inF frz o.dst) o.op A st fun v _=>A1J A o.dst v fun A'=>K A' st
   | false=>∃ v,(xOp P T M (inF frz o.dst) o.op A st fun v' st''=>v'=v∧st''=st)∧A1J A o.dst v fun A'=>K A' st)
  (A1J A o.dst (.tuple []) fun A'=>K A' st)
def A7y (P:Program) (T:G9) (M:J2) (frz:List Nat) (ops:List Oper):OT→List AV→St→KA→Prop
 | .done,A,st,k=>k A st
 | .gen i t,A,st,k=>B7B P T M frz ops i (fun A' st'=>A7y P T M frz ops t A' st' k) A st
 | .qui i t,A,st,k=>C7K P T M frz ops i (fun A' st'=>A7y P T M frz ops t A' st' k) A st
 | .two i j t u,A,st,k=>B7B P T M frz ops i (fun A' st'=>A7y P T M frz ops t A' st' k) A st∧B7B P T M frz ops j (fun A' st'=>A7y P T M frz ops u A' st' k) A st
theorem B5F {P:Program} {T:G9} {M:J2} {frz:List Nat} {ops:List Oper} {i:Nat} {K K':KA} {A:List AV} {st:St} (hK:∀ A st,K A st→K' A st) (h:B7B P T M frz ops i K A st):B7Y P T M ops i K' A st:=by
 unfold B7B at h
 unfold B7Y
 cases ho:ops[i]? with
 | none=>rw [ho] at h;exact h.elim
 | some o =>
  rw [ho] at h
  simp only at h ⊢
  obtain ⟨b,hb,h1,h2⟩:=A4L h
  rw [hb]
  refine ⟨fun e=>?_,fun e=>?_⟩
  ·exact R8 (fun v st' hk=>by rw [U4] at hk;exact hK _ _ hk) (A3I (h1 e))
  ·have:=h2 e
   rw [U4] at this;exact hK _ _ this
theorem C7L {P:Program} {T:G9} {M:J2} {frz:List Nat} {ops:List Oper} {i:Nat} {K K':KA} {A:List AV} {st:St} (hK:∀ A st,K A st→K' A st) (h:C7K P T M frz ops i K A st):C6a P T M ops i K' A st:=by
 unfold C7K at h
 unfold C6a
 cases ho:ops[i]? with
 | none=>rw [ho] at h;exact h.elim
 | some o =>
  rw [ho] at h
  simp only at h ⊢
  obtain ⟨b,hb,h1,h2⟩:=A4L h
  rw [hb]
  refine ⟨fun e=>?_,fun e=>?_⟩
  ·have h1:=h1 e
   split at h1
   ·rename_i hdet
    obtain ⟨v,hv,hk⟩:=B4B hdet (A3I h1)
    rw [U4] at hk
    exact ⟨v,hv,hK _ _ hk⟩
   ·obtain ⟨v,hv,hk⟩:=h1
    rw [U4] at hk
    exact ⟨v,A3I hv,hK _ _ hk⟩
  ·have:=h2 e
   rw [U4] at this;exact hK _ _ this
theorem A6H {P:Program} {T:G9} {M:J2} {frz:List Nat} {ops:List Oper}:∀ (t:OT) (A:List AV) (st:St) (k:KA),A7y P T M frz ops t A st k→A8q P T M ops t A st (A5J k)
 | .done,A,st,k,h=>⟨A,st,A5U.refl A st,h⟩
 | .gen i t,A,st,k,h=>B5F (fun A st h=>A6H t A st k h) h
 | .qui i t,A,st,k,h=>C7L (fun A st h=>A6H t A st k h) h
 | .two i j t u,A,st,k,h=>⟨B5F (fun A st h=>A6H t A st k h) h.1,B5F (fun A st h=>A6H u A st k h) h.2⟩
def xDr (P:Program) (T:G9) (M:J2) (frz:List Nat) (ops:List Oper) (A:List AV) (st:St) (k:KA):Prop :=
 ∃ eff ext ord:List Nat,match ord with
  | []=>∃ t:OT,(Region.noSelect ops.toArray&&okT ops.toArray eff t ops.length (Array.replicate ops.length false))=true∧A7y P T M frz ops t A st k
  | _::_=>(Region.noSelect ops.toArray&&B1O ops.toArray eff ext ord (Array.replicate ops.length false)&&(ord.length==ops.length))=true∧B3n P T M frz ops eff ext ord A st k
theorem C5y {P:Program} {T:G9} {M:J2} {frz:List Nat} {ops:List Oper} {A:List AV} {st:St} {k:KA} (h:xDr P T M frz ops A st k):Dr P T M ops A st (A5J k):=by
 obtain ⟨eff,ext,ord,h⟩:=h
 refine ⟨eff,ext,ord,?_⟩
 split at h
 ·obtain ⟨t,h1,h2⟩:=h
  exact ⟨t,h1,A6H t _ _ _ h2⟩
 ·exact ⟨h.1,A7k _ _ _ _ h.2⟩
def B2m:Nat→(List AV→Prop)→Prop
 | 0,k=>k []
 | n+1,k=>B2m n fun A=>k (.junk::A)
theorem B2n:∀ (n:Nat) (k:List AV→Prop),B2m n k=k (List.replicate n .junk)
 | 0,k=>rfl
 | n+1,k=>by rw [B2m,B2n n];rfl
def A8V:List Nat→List AV→List AV→(List AV→Prop)→Prop
 | i::is,v::vs,A,k=>B5m A i v fun A'=>A8V is vs A' k
 | _,_,A,k=>k A
theorem B2u:∀ (is:List Nat) (vs A:List AV) (k:List AV→Prop),A8V is vs A k=k ((is.zip vs).foldl (fun A p=>A.set p.1 p.2) A)
 | [],vs,A,k=>by simp [A8V]
 | i::is,[],A,k=>by simp [A8V]
 | i::is,v::vs,A,k=>by simp only [A8V,A8U,B2u is vs,List.zip_cons_cons,D7U]
def A3N (A:List AV):List Nat→(List AV→Prop)→Prop
 | [],k=>k []
 | i::is,k=>B0u A i fun v=>A3N A is fun vs=>k (v::vs)
theorem A2t (A:List AV):∀ (is:List Nat) (k:List AV→Prop),A3N A is k=k (is.map fun i=>A.getD i AV.junk)
 | [],k=>rfl
 | i::is,k=>by simp only [A3N,A5f,A2t A is,D7H]
def C5z (T:G9) (A:List AV) (st:St) (r:ResultVar) (k:AV→Prop):Prop :=
 match r with
 | .tmp t=>B0u A t k
 | .cell t ty=>B0u A t fun p=>B7C T ty p st (fun v _=>k v)
def B7D (T:G9) (A:List AV) (st:St):List ResultVar→(List AV→Prop)→Prop
 | [],k=>k []
 | r::rs,k=>C5z T A st r fun v=>B7D T A st rs fun vs=>k (v::vs)
theorem B2Q {T:G9} {A:List AV} {st:St}:∀ (rs:List ResultVar) (k:List AV→Prop),B7D T A st rs k→A9T T A st rs k
 | [],k,h=>h
 | r::rs,k,h=>by
  simp only [B7D] at h
  simp only [A9T]
  cases r with
  | tmp t=>simp only [C5z,B5M,A5f] at h ⊢;exact B2Q rs _ h
  | cell t ty=>simp only [C5z,B5M,A5f] at h ⊢;exact A4S (fun v hv=>B2Q rs _ hv) (B2N h)
def C2G (T:G9) (rs:List ResultVar) (post:KK):Exit→KA:=fun e A st=>match e with
 | .normal=>B7D T A st rs fun vs=>post (B0w vs) st
 | .ret=>B7D T A st rs fun vs=>post (B0w vs) st
 | _=>False
def C7G:Nat→(List AV→Prop)→Prop
 | 0,k=>k []
 | n+1,k=>C7G n fun A=>k (.tuple []::A)
theorem C0C:∀ (n:Nat) (k:List AV→Prop),C7G n k=k (List.replicate n (.tuple []))
 | 0,k=>rfl
 | n+1,k=>by rw [C7G,C0C n];rfl
def A4g:List AV→Nat→(List AV→Prop)→Prop
 | [],n,k=>C7G n k
 | v::vs,n,k=>A4g vs (n - 1) fun A=>k (v::A)
theorem B4e:∀ (args:List AV) (n:Nat) (k:List AV→Prop),A4g args n k=k (start args n)
 | [],n,k=>by rw [A4g,C0C];simp [start]
 | v::vs,n,k=>by
  rw [A4g,B4e vs (n - 1)]
  unfold start
  simp only [D7o,D8Z]
  rw [show n - 1 - vs.length=n - (vs.length+1) from by omega]
noncomputable def C5C (P:Program) (T:G9) (M:J2) (frz:List Nat) (ops:List Oper) (l:List Oper):List AV→St→KA→Prop :=
 List.rec (motive:=fun _=>List AV→St→KA→Prop) (fun A st k=>k A st)
  (fun o rest ih A st k=>match (match rest with | [o2]=>A6k frz o o2 | _=>none) with
   | some (p,t,u,y)=>(match rest with | [o2]=>B2O T p t u y o2.dst A st k | _=>False)
   | none=>match (match rest with | [om,o2]=>A9a frz o om o2 | _=>none) with
   | some (m,x,p,t,u,y)=>(match rest with | [_,o2]=>B0U T m x p t u y o2.dst A st k | _=>False)
   | none=>A6I ops o A
    (xOp P T M (inF frz o.dst) o.op A st fun v st'=>A1J A o.dst v fun A'=>ih A' st' k)
    (A1J A o.dst (.tuple []) fun A'=>ih A' st k)) l
theorem B5H {P:Program} {T:G9} {M:J2} {frz:List Nat} {ops:List Oper}:∀ l,C5C P T M frz ops l=C2K P T M frz ops l
 | []=>rfl
 | o::rest=>by
  funext A st k
  conv=>rhs;unfold C2K
  rw [←B5H rest]
  rfl
noncomputable def D3H (P:Program) (T:G9) (M:J2) (frz:List Nat) (ops:List Oper) (eff ext:List Nat) (ord:List Nat):List AV→St→KA→Prop :=
 List.rec (motive:=fun _=>List AV→St→KA→Prop) (fun A st k=>k A st)
  (fun i ord ih A st k=>match ops[i]? with
   | none=>False
   | some o=>match (match ord with | [j]=>(match ops[j]? with | some o2=>(match eff.contains i&&eff.contains j with | true=>A6k frz o o2 | false=>none) | none=>none) | _=>none) with
    | some (p,t,u,y)=>(match ord with | [j]=>(match ops[j]? with | some o2=>B2O T p t u y o2.dst A st k | none=>False) | _=>False)
    | none=>A6I ops o A
     (match eff.contains i with
      | true=>xOp P T M (inF frz o.dst) o.op A st fun v st'=>A1J A o.dst v fun A'=>ih A' st' k
      | false=>match ext.contains i with
       | true=>∃ v,(∀ st',Ext st st'→xOp P T M (inF frz o.dst) o.op A st' fun v' st''=>v'=v∧st''=st')∧A1J A o.dst v fun A'=>ih A' st k
       | false=>match B1v o.op with
        | true=>xOp P T M (inF frz o.dst) o.op A st fun v _=>A1J A o.dst v fun A'=>ih A' st k
        | false=>∃ v,(xOp P T M (inF frz o.dst) o.op A st fun v' st''=>v'=v∧st''=st)∧A1J A o.dst v fun A'=>ih A' st k)
     (A1J A o.dst (.tuple []) fun A'=>ih A' st k)) ord
theorem C0H {P:Program} {T:G9} {M:J2} {frz:List Nat} {ops:List Oper} {eff ext:List Nat}:∀ l,D3H P T M frz ops eff ext l=B3n P T M frz ops eff ext l
 | []=>rfl
 | i::ord=>by
  funext A st k
  conv=>rhs;unfold B3n
  rw [←C0H ord]
  rfl
noncomputable def C8k (P:Program) (T:G9) (M:J2) (frz:List Nat) (ops:List Oper) (t:OT):List AV→St→KA→Prop :=
 OT.rec (motive:=fun _=>List AV→St→KA→Prop) (fun A st k=>k A st)
  (fun i _ ih A st k=>B7B P T M frz ops i (fun A' st'=>ih A' st' k) A st)
  (fun i _ ih A st k=>C7K P T M frz ops i (fun A' st'=>ih A' st' k) A st)
  (fun i j _ _ iht ihu A st k=>B7B P T M frz ops i (fun A' st'=>iht A' st' k) A st∧B7B P T M frz ops j (fun A' st'=>ihu A' st' k) A st) t
theorem A6K {P:Program} {T:G9} {M:J2} {frz:List Nat} {ops:List Oper}:∀ t,C8k P T M frz ops t=A7y P T M frz ops t
 | .done=>rfl
 | .gen i t=>by
  funext A st k
  conv=>rhs;unfold A7y
  rw [←A6K t];rfl
 | .qui i t=>by
  funext A st k
  conv=>rhs;unfold A7y
  rw [←A6K t];rfl
 | .two i j t u=>by
  funext A st k
  conv=>rhs;unfold A7y
  rw [←A6K t,←A6K u];rfl
noncomputable def yDr (P:Program) (T:G9) (M:J2) (frz:List Nat) (ops:List Oper) (A:List AV) (st:St) (k:KA):Prop :=
 ∃ eff ext ord:List Nat,match ord with
  | []=>∃ t:OT,(Region.noSelect ops.toArray&&okT ops.toArray eff t ops.length (Array.replicate ops.length false))=true∧C8k P T M frz ops t A st k
  | _::_=>(Region.noSelect ops.toArray&&B1O ops.toArray eff ext ord (Array.replicate ops.length false)&&(ord.length==ops.length))=true∧D3H P T M frz ops eff ext ord A st k
theorem C5B {P:Program} {T:G9} {M:J2} {frz:List Nat} {ops:List Oper} {A:List AV} {st:St} {k:KA}:yDr P T M frz ops A st k=xDr P T M frz ops A st k:=by
 unfold yDr xDr
 simp only [C0H,A6K]
theorem A0 (st:St) (b:Nat) (x:K4):upd st b x b=some x:=by simp [upd]
theorem A9 {st:St} {b c:Nat} {x:K4} (h:c≠b):upd st b x c=st c:=by simp [upd,h]
theorem B7y {st:St} {b c:Nat} {x:K4} (h:upd st b x c=none):c≠b∧st c=none:=by
 unfold upd at h
 split at h
 ·cases h
 ·rename_i e;exact ⟨e,h⟩
theorem A7j (st:St) (b:Nat) (x y:K4):upd (upd st b x) b y=upd st b y:=funext fun c=>by unfold upd;split<;>rfl
theorem A3L {st:St} {b:Nat} (h:st b=none) (x:K4):del (upd st b x) b=st:=funext fun c=>by
 unfold del upd
 split
 ·rename_i e;rw [e,h]
 ·rfl
theorem call {P:Program} {f:FuncId} {args:List AV} {st:St} {post k:KK} (h:S P f args st post) (hk:∀ v st',post v st'→k v st'):A1M P f args st k:=by
 refine ⟨?_⟩;unfold A3m;exact ⟨args,st,A6.refl _ _,h.mono hk⟩
theorem B3 {P:Program} {f:FuncId} {args:List AV} {st:St} {v:AV} {k:KK} (h:S P f args st fun v' st'=>v'=v∧st'=st) (hk:k v st):A1M P f args st k :=
 call h fun v' st' ⟨e1,e2⟩=>by rw [e1,e2];exact hk
theorem E5 {P:Program} {f:FuncId} {args args':List AV} {st st':St} {k:KK} (hs:A6 args st args' st') (h:A1M P f args' st' k):A1M P f args st k:=by
 refine ⟨?_⟩
 have h:=h.out
 unfold A3m at *
 obtain ⟨a,s,h1,h2⟩:=h
 exact ⟨a,s,hs.trans h1,h2⟩
end Go.Ab
