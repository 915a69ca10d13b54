/- Part 11 of the proof: contracts -/
import Derived.Test.YtaapofnkmpiknaaGreatPt10
set_option linter.unusedVariables false
set_option linter.unusedSimpArgs false
namespace Go.Ab
open Go
def B0M:List AV→Nat→(AV→Prop)→Prop
 | [],_,k=>k .junk
 | a::_,0,k=>k a
 | _::xs,n+1,k=>B0M xs n k
def B5H:List AV→Nat→AV→(List AV→Prop)→Prop
 | [],_,_,k=>k []
 | _::xs,0,v,k=>k (v::xs)
 | a::xs,n+1,v,k=>B5H xs n v fun xs'=>k (a::xs')
def A2i (A:List AV) (d:Option Tmp) (v:AV) (k:List AV→Prop):Prop:=match d with | some i=>B5H A i v k | none=>k A
theorem A5r:∀ (A:List AV) (i:Nat) (k:AV→Prop),B0M A i k=k (A.getD i .junk)
 | [],_,k=>by simp [B0M]
 | a::xs,0,k=>by simp [B0M]
 | a::xs,n+1,k=>by rw [B0M,A5r xs n k];simp
theorem A9e:∀ (A:List AV) (i:Nat) (v:AV) (k:List AV→Prop),B5H A i v k=k (A.set i v)
 | [],_,v,k=>by simp [B5H]
 | a::xs,0,v,k=>by simp [B5H]
 | a::xs,n+1,v,k=>by rw [B5H,A9e xs n v];simp
theorem V6 (A:List AV) (d:Option Tmp) (v:AV) (k:List AV→Prop):A2i A d v k=k (K3 A d v):=by
 cases d with
 | none=>rfl
 | some i=>exact A9e A i v k
def D0W (v:Value) (k:AV→Prop):Prop :=
 match v with
 | .bool b=>k (.bool b)
 | .int kk n=>k (.int kk n)
 | .string s=>k (.str s)
 | .pointer a=>(match a with | none=>k .nilp | some _=>k .junk)
 | .slice a l c=>(match a with | none=>(match l,c with | 0,0=>k .emp | _,_=>k .junk) | some _=>k .junk)
 | .nilFunc=>k .nilf
 | .nilIface=>k .nili
 | v=>k (I1 v)
theorem C7g (v:Value) (k:AV→Prop):D0W v k=k (I1 v):=by
 cases v with
 | pointer a=>cases a<;>rfl
 | slice a l c=>cases a with
  | none=>cases l<;>cases c<;>rfl
  | some a=>rfl
 | _=>rfl
def evK (A:List AV) (x:Operand) (k:AV→Prop):Prop :=
 match x with
 | .tmp t=>B0M A t k
 | .const v=>D0W v k
 | .global _=>k .junk
 | .func f=>k (.fn (.func f) [] [])
theorem A5o (A:List AV) (x:Operand) (k:AV→Prop):evK A x k=k (ev A x):=by
 cases x with
 | tmp t=>exact A5r A t k
 | const v=>exact C7g v k
 | _=>rfl
def C1A (A:List AV):List Operand→(List AV→Prop)→Prop
 | [],k=>k []
 | x::xs,k=>evK A x fun v=>C1A A xs fun vs=>k (v::vs)
theorem C0o (A:List AV):∀ (xs:List Operand) (k:List AV→Prop),C1A A xs k=k (xs.map (ev A))
 | [],k=>rfl
 | x::xs,k=>by simp only [C1A,A5o,C0o A xs,D8k]
def C1z (A:List AV):List (Nat×Operand)→(List (Nat×AV)→Prop)→Prop
 | [],k=>k []
 | p::ps,k=>evK A p.2 fun v=>C1z A ps fun vs=>k ((p.1,v)::vs)
theorem B0X (A:List AV):∀ (ps:List (Nat×Operand)) (k:List (Nat×AV)→Prop),C1z A ps k=k (ps.map fun p=>(p.1,ev A p.2))
 | [],k=>rfl
 | p::ps,k=>by simp only [C1z,A5o,B0X A ps,D8k]
def C7p (A:List AV) (x:Option Operand) (k:Option AV→Prop):Prop:=match x with | none=>k none | some y=>evK A y fun v=>k (some v)
theorem C7q (A:List AV) (x:Option Operand) (k:Option AV→Prop):C7p A x k=k (x.map (ev A)):=by
 cases x with
 | none=>rfl
 | some y=>exact A5o A y _
def A5L (b:Bool) (x y:Prop):Prop:=match b with | true=>x | false=>y
theorem A0O (b:Bool) (x y:Prop):A5L b x y↔(b=true→x)∧(b=false→y):=by cases b<;>simp [A5L]
theorem B7 {b:Bool} {x y:Prop} (h1:b=true→x) (h2:b=false→y):A5L b x y:=by cases b;exact h2 rfl;exact h1 rfl
structure A2l (P:Program) (f:FuncId) (args:List AV) (st:St) (k:KK):Prop where
 out:A3z P f args st k
def C3E:List AV→List AV→(List AV→Prop)→Prop
 | [],b,k=>k b
 | v::a,b,k=>C3E a b fun l=>k (v::l)
theorem A5h:∀ (a b:List AV) (k:List AV→Prop),C3E a b k=k (a++b)
 | [],b,k=>rfl
 | v::a,b,k=>by rw [C3E,A5h a b];rfl
def C4s:List AV→Nat→(Nat→Prop)→Prop
 | [],n,k=>k n
 | _::l,n,k=>C4s l (n+1) k
theorem C0w:∀ (l:List AV) (n:Nat) (k:Nat→Prop),C4s l n k=k (n+l.length)
 | [],n,k=>by simp [C4s]
 | a::l,n,k=>by rw [C4s,C0w l];simp [D9M,Nat.add_comm 1]
def B6Z:List AV→List AV→(List AV→Prop)→Prop
 | cs,[],k=>k cs
 | _::cs,v::new,k=>B6Z cs new fun r=>k (v::r)
 | [],_::_,k=>k []
def A7n:List AV→Nat→List AV→(List AV→Prop)→Prop
 | cs,0,new,k=>B6Z cs new k
 | a::cs,n+1,new,k=>A7n cs n new fun r=>k (a::r)
 | [],_+1,_,k=>k []
theorem B7a:∀ (cs new:List AV) (k:List AV→Prop),new.length≤cs.length→B6Z cs new k=k (new++cs.drop new.length)
 | cs,[],k,_=>by simp [B6Z]
 | c::cs,v::new,k,h=>by rw [B6Z,B7a cs new _ (by simpa using h)];simp
 | [],v::new,k,h=>by simp at h
theorem A8c:∀ (cs:List AV) (n:Nat) (new:List AV) (k:List AV→Prop),n+new.length≤cs.length→A7n cs n new k=k (cs.take n++new++cs.drop (n+new.length))
 | cs,0,new,k,h=>by rw [A7n,B7a cs new k (by omega)];simp
 | a::cs,n+1,new,k,h=>by
  rw [A7n,A8c cs n new _ (by simp at h;omega)]
  simp [show n+1+new.length=(n+new.length)+1 from by omega]
 | [],n+1,new,k,h=>by simp at h
def B4F (place:Nat→Option (Nat×Nat)):List (Nat×AV)→List AV→(List AV→Prop)→Prop
 | [],cells,k=>k cells
 | (i,v)::rest,cells,k=>match place i with
  | none=>False
  | some (off,size)=>match Nat.beq (cellsOf v).length size&&Nat.ble (off+size) cells.length&&(cellsOf v).all AV.one&&Nat.blt 0 size with
   | true=>A7n cells off (cellsOf v) fun cells'=>B4F place rest cells' k
   | false=>False
theorem A9l {place:Nat→Option (Nat×Nat)}:∀ (ps:List (Nat×AV)) (cells:List AV) (k:List AV→Prop),B4F place ps cells k→∃ out,A5I place cells ps=some out∧k out
 | [],cells,k,h=>⟨cells,rfl,h⟩
 | (i,v)::ps,cells,k,h=>by
  unfold B4F at h
  unfold A5I
  split at h
  ·exact h.elim
  ·rename_i off size hp
   rw [hp]
   simp only
   split at h
   ·rename_i hb
    simp only [D7f,Nat.beq_eq,Nat.ble_eq,D9O] at hb
    obtain ⟨⟨⟨h1,h2⟩,h3⟩,h4⟩:=hb
    rw [A8c _ _ _ _ (by omega)] at h
    rw [if_neg (by simp only [not_or,Decidable.not_not,D9y];exact ⟨h1,by omega,h3,by omega⟩)]
    rw [h1] at h
    exact A9l ps _ k h
   ·exact h.elim
def B9T (T:H5) (t:TypeId) (ps:List (Nat×AV)) (k:AV→Prop):Prop :=
 match T t with
 | none=>False
 | some r=>match r.desc with
  | .struct fs=>match places T fs.toList with
   | none=>False
   | some pl=>B4F (fun i=>pl[i]?) ps (cellsOf (I1 r.zero)) fun out=>k (.agg out)
  | .array n el=>match T el with
   | none=>False
   | some q=>B4F (fun i=>some (i * q.size,q.size)) ps (cellsOf (I1 r.zero)) fun out=>k (.agg out)
  | _=>False
theorem C3d {T:H5} {t:TypeId} {ps:List (Nat×AV)} {k:AV→Prop} (h:B9T T t ps k):A7J T t ps k:=by
 unfold B9T at h
 unfold A7J
 split at h
 ·exact h.elim
 ·rename_i r hr
  rw [hr]
  simp only
  split at h
  ·rename_i fs hd
   rw [hd]
   simp only
   split at h
   ·exact h.elim
   ·rename_i pl hp
    rw [hp]
    simp only
    obtain ⟨out,h1,h2⟩:=A9l _ _ _ h
    rw [h1];exact h2
  ·rename_i n el hd
   rw [hd]
   simp only
   split at h
   ·exact h.elim
   ·rename_i q hq
    rw [hq]
    simp only
    obtain ⟨out,h1,h2⟩:=A9l _ _ _ h
    rw [h1];exact h2
  ·exact h.elim
def A6I:Nat→List AV→(List AV→List AV→Prop)→Prop
 | 0,l,k=>k [] l
 | n+1,v::l,k=>A6I n l fun a b=>k (v::a) b
 | _+1,[],k=>k [] []
theorem B0f:∀ (n:Nat) (l:List AV) (k:List AV→List AV→Prop),A6I n l k=k (l.take n) (l.drop n)
 | 0,l,k=>by simp [A6I]
 | n+1,v::l,k=>by rw [A6I,B0f n l];simp
 | n+1,[],k=>by simp [A6I]
def B1O (agg:Bool) (e:Nat):Nat→List AV→(List AV→Prop)→Prop
 | 0,_,k=>k []
 | n+1,out,k=>match agg with
  | true=>A6I e out fun a b=>B1O agg e n b fun r=>k (.agg a::r)
  | false=>match out with
   | v::b=>B1O agg e n b fun r=>k (v::r)
   | []=>False
theorem B6E (agg:Bool) (e n:Nat) (out:List AV) (he:agg=false→e=1):A1z agg e (n+1) out=(if agg then .agg (out.take e) else out.getD 0 .junk)::A1z agg e n (out.drop e):=by
 unfold A1z
 rw [List.range_succ_eq_map,D8k,D9B]
 congr 1
 ·cases agg<;>simp
 ·refine D8x fun i _=>?_
  cases agg with
  | true =>
   simp only [Function.comp,if_true]
   rw [List.drop_drop,show (i+1) * e=e+i * e from by rw [D9o];omega]
  | false =>
   have:=he rfl
   subst this
   simp
theorem A9E {agg:Bool} {e:Nat} (he:agg=false→e=1):∀ (n:Nat) (out:List AV) (k:List AV→Prop),B1O agg e n out k→k (A1z agg e n out)
 | 0,out,k,h=>h
 | n+1,out,k,h=>by
  unfold B1O at h
  rw [B6E agg e n out he]
  cases agg with
  | true =>
   simp only [B0f] at h
   exact A9E he n _ _ h
  | false =>
   simp only at h
   have:=he rfl
   subst this
   split at h
   ·rename_i v b;exact A9E he n _ _ h
   ·exact h.elim
def C8i (fz:Bool) (ty:TypeId) (v:AV) (st:St) (k:KK):Prop :=
 match Nat.blt 0 (cellsOf v).length&&(cellsOf v).all AV.one with
 | true=>(match fz with
  | true=>k (.fptr v 0) st
  | false=>C4s (cellsOf v) 0 fun n=>∀ b,st b=none→k (.optr n b 0 0) (upd st b ⟨ty,n,1,fun _=>v⟩))
 | false=>False
theorem C1e {fz:Bool} {ty:TypeId} {v:AV} {st:St} {k:KK} (h:C8i fz ty v st k):B8m ty v st k:=by
 unfold C8i at h
 split at h
 ·rename_i hb
  simp only [D7f,D9O] at hb
  cases fz with
  | true=>exact ⟨hb.1,hb.2,.inl h⟩
  | false =>
   simp only [C0w,D7o] at h
   exact ⟨hb.1,hb.2,.inr h⟩
 ·exact h.elim
def D0z (fz:Bool) (T:H5) (t:TypeId) (len:Nat) (ps:List (Nat×AV)) (st:St) (k:KK):Prop :=
 match T t with
 | none=>False
 | some r=>match r.desc with
  | .slice el=>match T el with
   | none=>False
   | some q=>match Nat.blt 0 (len * q.size)&&Nat.ble (len * q.size) 16777216&&Nat.beq q.zero.cells.size q.size&&(q.agg||Nat.beq q.size 1) with
    | false=>False
    | true=>B4F (fun i=>some (i * q.size,q.size)) ps ((List.range (len * q.size)).map fun i=>(cellsOf (I1 q.zero)).getD (i % q.size) .junk) fun out=>match out.all AV.one with
    | false=>False
    | true=>B1O q.agg q.size len out fun els=>match fz with
     | false=>k (.arr q.size len (fun i=>els.getD i .junk)) st
     | true=>∀ b,st b=none→k (.own q.size b 0 len) (upd st b ⟨el,q.size,len,fun i=>els.getD i .junk⟩)
  | _=>False
theorem C8l {fz:Bool} {T:H5} {t:TypeId} {len:Nat} {ps:List (Nat×AV)} {st:St} {k:KK} (h:D0z fz T t len ps st k):A1I T t len ps st k:=by
 unfold D0z at h
 unfold A1I
 split at h
 ·exact h.elim
 ·rename_i r hr
  rw [hr]
  simp only
  split at h
  ·rename_i el hd
   rw [hd]
   simp only
   split at h
   ·exact h.elim
   ·rename_i q hq
    rw [hq]
    split at h
    ·exact h.elim
    rename_i hb
    simp only [D7f,D9O,Nat.ble_eq,Nat.beq_eq,D8g] at hb
    obtain ⟨⟨⟨h1,h2⟩,h3⟩,h4'⟩:=hb
    have h4:q.agg=false→q.size=1:=fun e=>h4'.resolve_left (by simp [e])
    refine ⟨h1,h2,h3,h4,?_⟩
    obtain ⟨out,ho,h⟩:=A9l _ _ _ h
    rw [ho]
    split at h
    ·exact h.elim
    rename_i hone
    have h:=A9E h4 _ _ _ h
    refine ⟨hone,?_⟩
    cases fz with
    | false=>exact .inl h
    | true=>exact .inr h
  ·exact h.elim
def C4h:List AV→Nat→(AV→Prop)→Prop
 | [],_,_=>False
 | a::_,0,k=>k a
 | _::xs,n+1,k=>C4h xs n k
theorem C0p:∀ (A:List AV) (i:Nat) (k:AV→Prop),C4h A i k→∃ y,A[i]?=some y∧k y
 | [],_,_,h=>h.elim
 | a::_,0,_,h=>⟨a,rfl,h⟩
 | _::xs,n+1,k,h=>by obtain ⟨y,h1,h2⟩:=C0p xs n k h;exact ⟨y,by simpa using h1,h2⟩
def A9m (r:C0) (cs:List AV) (o:Nat) (k:AV→Prop):Prop :=
 match r.agg with
 | true=>(match Nat.ble (o+r.size) cs.length with
  | true=>A6I o cs fun _ b=>A6I r.size b fun c _=>k (.agg c)
  | false=>False)
 | false=>C4h cs o k
theorem B3k {r:C0} {cs:List AV} {o:Nat} {k:AV→Prop} (h:A9m r cs o k):pick r cs o k:=by
 unfold A9m at h
 unfold pick
 split at h
 ·rename_i e
  rw [e]
  split at h
  ·rename_i hb
   simp only [B0f] at h
   exact ⟨by simpa using hb,h⟩
  ·exact h.elim
 ·rename_i e
  rw [e]
  obtain ⟨y,h1,h2⟩:=C0p _ _ _ h
  simp only
  rw [h1];exact h2
structure C3h (T:H5) (t:TypeId) (e b i o:Nat) (st:St) (k:KK):Prop where
 out:A3A T t (.optr e b i o) st k
def B8b (T:H5) (t:TypeId) (v:AV) (st:St) (k:KK):Prop :=
 match v with
 | .fptr v o=>(match T t with | some r=>A9m r (cellsOf v) o (fun y=>k y st) | none=>False)
 | .optr e b i o=>C3h T t e b i o st k
 | _=>False
theorem B3i {T:H5} {t:TypeId} {v:AV} {st:St} {k:KK} (h:B8b T t v st k):A3A T t v st k:=by
 unfold B8b at h
 split at h
 ·unfold A3A
  split at h
  ·rename_i hr;rw [hr];exact B3k h
  ·exact h.elim
 ·exact h.out
 ·exact h.elim
structure B8d (T:H5) (t:TypeId) (e b i o:Nat) (v:AV) (st:St) (k:KK):Prop where
 out:(match T t with | some r=>0<r.size | none=>False)∧A7M T t (.optr e b i o) v st k
def C6c (T:H5) (t:TypeId) (p v:AV) (st:St) (k:KK):Prop:=match p with | .optr e b i o=>B8d T t e b i o v st k | _=>False
structure A5V (T:H5) (t:TypeId) (s x:AV) (st:St) (k:KK):Prop where
 out:A5d T t s x st k
structure xMk (T:H5) (t:TypeId) (l c:AV) (st:St) (k:KK):Prop where
 out:B1r T t l c st k
def B3h (T:H5) (b:Builtin) (args:List AV) (ts:List TypeId) (st:St) (k:KK):Prop :=
 match b with
 | .append=>match args,ts with
  | [s,x],[t,u]=>(match Nat.beq t u with | true=>A5V T t s x st k | false=>False)
  | _,_=>False
 | b=>A2I T b args ts st k
theorem B7Y {T:H5} {b:Builtin} {args:List AV} {ts:List TypeId} {st:St} {k:KK} (h:B3h T b args ts st k):A2I T b args ts st k:=by
 unfold B3h at h
 split at h
 ·unfold A2I
  split at h
  ·split at h
   ·rename_i e;exact ⟨D9a e,h.out⟩
   ·exact h.elim
  ·exact h.elim
 ·exact h
def B6b (P:Program) (T:H5) (M:J5) (r:AV) (name:String) (args:List AV) (st:St) (k:KK):Prop :=
 match r with
 | .iface t v=>match M t name with
  | some (f,none)=>A2l P f (v::args) st k
  | some (f,some el)=>B8b T el v st (fun u st'=>A2l P f (u::args) st' k)
  | none=>False
 | _=>False
theorem B9W {P:Program} {T:H5} {M:J5} {r:AV} {name:String} {args:List AV} {st:St} {k:KK} (h:B6b P T M r name args st k):A6U P T M r name args st k:=by
 unfold B6b at h
 unfold A6U
 split at h
 ·rename_i t v
  simp only
  split at h
  ·rename_i f hf;rw [hf];exact h.out
  ·rename_i f el hf;rw [hf];exact A5e (k:=fun u st'=>A2l P f (u::args) st' k) (fun u hu=>hu.out) (B3i h)
  ·exact h.elim
 ·exact h.elim
def D0x (T:H5) (op:BinOp) (t:TypeId) (x y:AV) (k:AV→Prop):Prop :=
 match x,y,op with
 | .int kk a,.int _ b,.shl=>A5L (decide (b<0)) False (k (.int kk (kk.wrap (a * 2 ^ (min b.toNat kk.bits)))))
 | .int kk a,.int _ b,.shr=>A5L (decide (b<0)) False (k (.int kk (a.fdiv (2 ^ (min b.toNat kk.bits)))))
 | .int kk a,.int k' b,.quo=>match decide (kk=k') with | true=>A5L (decide (b=0)) False (k (.int kk (kk.wrap (a.tdiv b)))) | false=>False
 | .int kk a,.int k' b,.rem=>match decide (kk=k') with | true=>A5L (decide (b=0)) False (k (.int kk (a.tmod b))) | false=>False
 | x,y,op=>match B4K T op t x y with | some z=>k z | none=>False
theorem C8h {T:H5} {op:BinOp} {t:TypeId} {x y:AV} {k:AV→Prop} (h:D0x T op t x y k):match B4K T op t x y with | some z=>k z | none=>False:=by
 unfold D0x at h
 split at h
 ·obtain ⟨h1,h2⟩:=(A0O _ _ _).1 h
  rename_i kk a k' b
  by_cases hb:b<0
  ·exact (h1 (D7D hb)).elim
  ·simp only [B4K,A9q,if_neg hb];exact h2 (D7j hb)
 ·obtain ⟨h1,h2⟩:=(A0O _ _ _).1 h
  rename_i kk a k' b
  by_cases hb:b<0
  ·exact (h1 (D7D hb)).elim
  ·simp only [B4K,A9q,if_neg hb];exact h2 (D7j hb)
 ·rename_i kk a k' b
  by_cases hk:kk=k'
  ·rw [D7D hk] at h
   obtain ⟨h1,h2⟩:=(A0O _ _ _).1 h
   by_cases hb:b=0
   ·exact (h1 (D7D hb)).elim
   ·simp only [B4K,C6w,if_pos hk,if_neg hb];exact h2 (D7j hb)
  ·rw [D7j hk] at h;exact h.elim
 ·rename_i kk a k' b
  by_cases hk:kk=k'
  ·rw [D7D hk] at h
   obtain ⟨h1,h2⟩:=(A0O _ _ _).1 h
   by_cases hb:b=0
   ·exact (h1 (D7D hb)).elim
   ·simp only [B4K,C6w,if_pos hk,if_neg hb];exact h2 (D7j hb)
  ·rw [D7j hk] at h;exact h.elim
 ·exact h
def C5Y (T:H5) (op:BinOp) (t:TypeId) (y:Operand) (vx vy:AV) (k:AV→Prop):Prop :=
 match C6x T op t y vx with
 | some z=>k z
 | none=>D0x T op t vx vy k
theorem C5Z {T:H5} {op:BinOp} {t:TypeId} {y:Operand} {vx vy:AV} {k:AV→Prop} (h:C5Y T op t y vx vy k):match B6h T op t y vx vy with | some z=>k z | none=>False:=by
 unfold C5Y at h
 unfold B6h
 split at h
 ·rename_i z hz;rw [hz];exact h
 ·rename_i hz;rw [hz];exact C8h h
structure D0y (s:ByteArray) (j:Int) (k:AV→Prop):Prop where
 out:∃ h:0≤j∧j.toNat<s.size,k (.int .u8 ((s[j.toNat]'h.2).toNat:Int))
def B9V (T:H5) (t:TypeId) (v i:AV) (k:AV→Prop):Prop :=
 match T t with
 | none=>False
 | some r=>match r.desc,v,i with
  | .string,.str s,.int _ j=>D0y s j k
  | .array n el,.agg cs,.int _ j=>match T el with
   | none=>False
   | some q=>(q.agg=false∧j.toNat * q.size<cs.length∧0≤j∧j<n)∧B0M cs (j.toNat * q.size) k
  | _,_,_=>False
theorem C3g {T:H5} {t:TypeId} {v i:AV} {k:AV→Prop} (h:B9V T t v i k):A7L T t v i k:=by
 unfold B9V at h
 unfold A7L
 split at h
 ·exact h.elim
 rename_i r hr
 rw [hr]
 simp only
 split at h
 ·rename_i s kk j hd
  rw [hd]
  exact h.out
 ·rename_i n el cs kk j hd
  rw [hd]
  split at h
  ·exact h.elim
  ·rename_i q hq
   rw [A5r] at h
   simp only [hq]
   exact h
 ·exact h.elim
def C7k (n:Nat) (k:Nat→Prop):Prop :=
 match n with
 | 0=>k 0 | 1=>k 1 | 2=>k 2 | 3=>k 3 | 4=>k 4 | 5=>k 5 | 6=>k 6 | 7=>k 7 | 8=>k 8 | 9=>k 9 | 10=>k 10 | 11=>k 11 | 12=>k 12 | 13=>k 13 | 14=>k 14 | 15=>k 15 | 16=>k 16 | 17=>k 17 | 18=>k 18 | 19=>k 19 | 20=>k 20 | n=>k n
theorem C0A (n:Nat) (k:Nat→Prop):C7k n k=k n:=by unfold C7k;split<;>rfl
def A8i (T:H5) (s:TypeId) (p:AV) (f:Nat) (k:AV→Prop):Prop :=
 match T s with
 | none=>False
 | some r=>match r.desc with
  | .struct fs=>match fs[f]? with
   | none=>False
   | some fl=>match T fl.type with
    | none=>False
    | some q=>match Nat.blt 0 q.size with
     | true=>(match p with
      | .fptr v o=>C7k (o+fl.offset) fun o'=>k (.fptr v o')
      | .optr e b i o=>C7k (o+fl.offset) fun o'=>k (.optr e b i o')
      | _=>False)
     | false=>False
  | _=>False
theorem B3I {T:H5} {s:TypeId} {p:AV} {f:Nat} {k:AV→Prop} (h:A8i T s p f k):A1w T s p f k:=by
 unfold A8i at h
 unfold A1w
 split at h
 ·exact h.elim
 rename_i r hr
 rw [hr]
 simp only
 split at h
 case h_2=>exact h.elim
 rename_i fs hd
 rw [hd]
 simp only
 split at h
 ·exact h.elim
 rename_i fl hf
 rw [hf]
 simp only
 split at h
 ·exact h.elim
 rename_i q hq
 rw [hq]
 simp only
 split at h
 ·rename_i hb
  refine ⟨by simpa using hb,?_⟩
  split at h
  ·rw [C0A] at h;exact h
  ·rw [C0A] at h;exact h
  ·exact h.elim
 ·exact h.elim
def B9U (T:H5) (s:TypeId) (v:AV) (f:Nat) (k:AV→Prop):Prop :=
 match T s with
 | none=>False
 | some r=>match r.desc with
  | .struct fs=>match fs[f]? with
   | none=>False
   | some fl=>match T fl.type with
    | none=>False
    | some q=>match v with
     | .agg cs=>A9m q cs fl.offset k
     | _=>False
  | _=>False
theorem C3f {T:H5} {s:TypeId} {p:AV} {f:Nat} {k:AV→Prop} (h:B9U T s p f k):A7K T s p f k:=by
 unfold B9U at h
 unfold A7K
 split at h
 ·exact h.elim
 rename_i r hr
 rw [hr]
 simp only
 split at h
 case h_2=>exact h.elim
 rename_i fs hd
 rw [hd]
 simp only
 split at h
 ·exact h.elim
 rename_i fl hf
 rw [hf]
 simp only
 split at h
 ·exact h.elim
 rename_i q hq
 rw [hq]
 simp only
 split at h
 ·exact B3k h
 ·exact h.elim
def xOp (P:Program) (T:H5) (M:J5) (fz:Bool) (op:Op) (A:List AV) (st:St) (k:KK):Prop :=
 match op with
 | .move x=>evK A x fun v=>k v st
 | .assign x=>evK A x fun v=>k v st
 | .pick c x y=>evK A c fun v=>match v with | .bool b=>A5L b (evK A x fun u=>k u st) (evK A y fun u=>k u st) | _=>False
 | .binOp op t x y _=>evK A x fun v=>evK A y fun u=>C5Y T op t y v u (fun z=>k z st)
 | .unOp op _ x=>evK A x fun v=>match aUn op v with | some z=>k z st | none=>False
 | .load t x=>evK A x fun v=>B8b T t v st k
 | .store t x y=>evK A x fun v=>evK A y fun u=>C6c T t v u st k
 | .alloc t=>match T t with | some r=>C8i fz t (I1 r.zero) st k | none=>False
 | .box t x=>evK A x fun v=>C8i fz t v st k
 | .build t ps=>C1z A ps.toList fun vs=>B9T T t vs (fun v=>k v st)
 | .buildSlice t n ps=>match n with
  | 0=>C1z A ps.toList fun vs=>B6k T t vs st k
  | m+1=>C1z A ps.toList fun vs=>D0z fz T t (m+1) vs st k
 | .nilCheck x=>evK A x fun v=>match A6V v with | true=>k v st | false=>False
 | .convert s d x=>evK A x fun v=>match A8q T s d v with | some z=>k z st | none=>False
 | .makeInterface t x=>evK A x fun v=>match B4Z T t with | true=>k (.iface t v) st | false=>False
 | .makeFunc fn fs cs=>C1A A fs.toList fun us=>C1A A cs.toList fun vs=>k (.fn fn us vs) st
 | .makeSlice t l c=>evK A l fun v=>evK A c fun u=>xMk T t v u st k
 | .slice t x lo hi mx=>evK A x fun v=>C7p A lo fun l=>C7p A hi fun h=>C7p A mx fun m=>A9r T t v l h m (fun v=>k v st)
 | .fieldAddr s x f=>evK A x fun v=>A8i T s v f (fun v=>k v st)
 | .field s x f=>evK A x fun v=>B9U T s v f (fun v=>k v st)
 | .indexAddr t x i=>evK A x fun v=>evK A i fun u=>A2r T t v u (fun v=>k v st)
 | .index t x i=>evK A x fun v=>evK A i fun u=>B9V T t v u (fun v=>k v st)
 | .typeAssert x _ t ok=>evK A x fun v=>match B0V T v t ok with | some z=>k z st | none=>False
 | .extract x i=>evK A x fun v=>A4w v i (fun v=>k v st)
 | .call c=>C1A A c.args.toList fun args=>match c.callee with
  | .builtin b=>B3h T b args c.argTypes.toList st k
  | .invoke r name=>evK A r fun v=>B6b P T M v name args st k
  | .value f=>evK A f fun v=>match v with
   | .fn g fs cs=>(match g with | .func n=>C3E fs args fun l=>C3E l cs fun l=>A2l P n l st k | _=>False)
   | _=>False
 | _=>False
theorem A3S {P:Program} {T:H5} {M:J5} {fz:Bool} {o:Oper} {A:List AV} {st:St} {k:KK} (h:xOp P T M fz o.op A st k):aOp P T M o A st k:=by
 obtain ⟨dst,op,type,pos,after,guard⟩:=o
 unfold aOp
 cases op<;>simp only [xOp,A5o,C0o,B0X,C7q,A5h] at h ⊢<;>try exact h
 case alloc t =>
  split at h
  ·rename_i r hr;rw [hr];exact C1e h
  ·exact h.elim
 case box t x=>exact C1e h
 case fieldAddr t x f=>exact B3I h
 case field t x f=>exact C3f h
 case binOp op t x y _=>exact C5Z h
 case index t x f=>exact C3g h
 case load t x=>exact B3i h
 case store t x y =>
  unfold C6c at h
  split at h
  ·rename_i hv;rw [hv];exact h.out
  ·exact h.elim
 case makeSlice t l c=>exact h.out
 case build t ps=>exact C3d h
 case buildSlice t n ps =>
  cases n with
  | zero=>simp only [B0X] at h;exact h
  | succ m=>simp only [B0X] at h;exact C8l h
 case pick c x y =>
  split at h
  ·rename_i b hb
   simp only [hb]
   exact (A0O _ _ _).1 h
  ·exact h.elim
 case nilCheck x =>
  split at h
  ·rename_i hb;exact ⟨hb,h⟩
  ·exact h.elim
 case makeInterface t x =>
  split at h
  ·rename_i hb;exact ⟨hb,h⟩
  ·exact h.elim
 case call c =>
  obtain ⟨callee,args,ts⟩:=c
  cases callee with
  | builtin b=>exact B7Y h
  | invoke r name=>simp only [A5o] at h;exact B9W h
  | value f =>
   simp only [A5o,A5h] at h
   simp only [A5f]
   split at h
   ·rename_i g fs cs hf
    rw [hf]
    simp only
    split at h
    ·exact h.out
    ·exact h.elim
   ·exact h.elim
def A6Q (ops:List Oper) (o:Oper) (A:List AV) (x y:Prop):Prop :=
 match o.guard with
 | none=>x
 | some (g,want)=>match ops[g]? with
  | none=>y
  | some p=>match p.dst with
   | none=>y
   | some d=>B0M A d fun v=>match v with
    | .bool b=>(match want with | true=>A5L b x y | false=>A5L b y x)
    | .tuple _=>y
    | _=>False
theorem A4T {ops:List Oper} {o:Oper} {A:List AV} {x y:Prop} (h:A6Q ops o A x y):∃ b,A1h ops o A=some b∧(b=true→x)∧(b=false→y):=by
 unfold A6Q at h
 unfold A1h
 split at h
 ·rename_i hg;exact ⟨true,by simp [hg],fun _=>h,fun e=>by cases e⟩
 ·rename_i g want hg
  simp only [hg]
  split at h
  ·rename_i hp;exact ⟨false,by simp [hp],(fun e=>by cases e),fun _=>h⟩
  ·rename_i p hp
   simp only [hp]
   split at h
   ·rename_i hd;exact ⟨false,by simp [hd],(fun e=>by cases e),fun _=>h⟩
   ·rename_i d hd
    simp only [hd]
    rw [A5r] at h
    rw [D7c] at h
    cases hA:A[d]? with
    | none=>exact ⟨false,by simp,(fun e=>by cases e),fun _=>by rw [hA] at h;exact h.elim⟩
    | some v =>
     rw [hA] at h
     simp only [Option.getD_some] at h
     split at h
     ·rename_i b
      cases want with
      | true=>exact ⟨b,by simp,(A0O _ _ _).1 h⟩
      | false=>exact ⟨!b,by simp,fun e=>((A0O _ _ _).1 h).2 (by simpa using e),fun e=>((A0O _ _ _).1 h).1 (by simpa using e)⟩
     ·exact ⟨false,rfl,(fun e=>by cases e),fun _=>h⟩
     ·exact h.elim
def inF (frz:List Nat) (d:Option Tmp):Bool:=match d with | some p=>frz.contains p | none=>false
def A6s (frz:List Nat) (o1 o2:Oper):Option (Tmp×TypeId×TypeId×Operand) :=
 match o1.guard,o2.guard with
 | none,none=>match o1.op,o1.dst,o2.op with
  | .alloc t,some p,.store u (.tmp q) y=>(match Nat.beq p q&&frz.contains p with | true=>some (p,t,u,y) | false=>none)
  | _,_,_=>none
 | _,_=>none
theorem B8I {rd:Addr→Option Value} {sz:Nat→Nat} {v v':AV} {r:Nat} {c:Value} (he:cellsOf v=cellsOf v') (h:Rep rd sz (.fptr v r) c):Rep rd sz (.fptr v' r) c:=by
 cases h with
 | fptr v r a g hr hg=>exact .fptr v' r a g (fun j hj=>hr j (by rw [he];exact hj)) (fun j y hy=>hg j y (by rw [he];exact hy))
theorem C6O {A:List AV} {st:St} {p b:Nat} {d:Option Tmp} {x y:L7} {v:AV} {e:Nat} (hb:st b=none) (hn:0<y.n) (hv:cellsOf (y.f 0)=cellsOf v) (hp:p<A.length) (hd:d≠some p) :
  A6d (K3 (K3 A (some p) (.optr e b 0 0)) d (.tuple [])) (upd (upd st b x) b y) (K3 (K3 A (some p) (.fptr v 0)) d (.tuple [])) st:=by
 intro w a hA hS
 have hst:upd (upd st b x) b y b=some y:=by simp [upd]
 have hne:∀ c,c≠b→upd (upd st b x) b y c=st c:=fun c hc=>by simp [upd,hc]
 have he:Evo (upd (upd st b x) b y) w st w:=⟨rfl,rfl,rfl,D7l _,fun c _ hs=>⟨rfl,by
  by_cases hc:c=b
  ·subst hc;exact hb
  ·rw [hne c hc] at hs;exact hs⟩,fun _=>D7l _⟩
 obtain ⟨cs,hok⟩:=hS b y hst
 refine ⟨⟨by have:=hA.len;simp [K3] at this ⊢;cases d<;>simp_all,fun i u hu=>?_,hA.defers⟩,fun c z hz=>?_,he⟩
 ·by_cases hi:i=p
  ·subst hi
   have hpt:(K3 (K3 A (some i) (.optr e b 0 0)) d (.tuple []))[i]?=some (.optr e b 0 0):=by
    cases d with
    | none=>simp [K3,hp]
    | some q=>simp only [K3];rw [D8V (fun h=>hd (by rw [h]))];simp [hp]
   have hpt':(K3 (K3 A (some i) (.fptr v 0)) d (.tuple []))[i]?=some (.fptr v 0):=by
    cases d with
    | none=>simp [K3,hp]
    | some q=>simp only [K3];rw [D8V (fun h=>hd (by rw [h]))];simp [hp]
   rw [hpt'] at hu
   cases hu
   obtain ⟨c,hc1,hc2⟩:=hA.at_ i _ hpt
   refine ⟨c,hc1,?_⟩
   cases hc2
   have:=B8I hv (B0r (hok.evo he rfl) hb hn)
   simpa using this
  ·have hsame:(K3 (K3 A (some p) (.optr e b 0 0)) d (.tuple []))[i]?=(K3 (K3 A (some p) (.fptr v 0)) d (.tuple []))[i]?:=by
    cases d with
    | none=>simp only [K3];rw [D8V (fun h=>hi h.symm),D8V (fun h=>hi h.symm)]
    | some q =>
     simp only [K3,D8W,D8p]
     rw [if_neg (show ¬ p=i from fun h=>hi h.symm),if_neg (show ¬ p=i from fun h=>hi h.symm)]
   rw [←hsame] at hu
   obtain ⟨c,hc1,hc2⟩:=hA.at_ i u hu
   exact ⟨c,hc1,he.rep hc2⟩
 ·have hc:c≠b:=fun h=>by rw [h,hb] at hz;cases hz
  obtain ⟨ds,hd'⟩:=hS c z (by rw [hne c hc];exact hz)
  exact ⟨ds,hd'.evo he rfl⟩
def B8Y (d:Option Tmp) (p:Tmp):Bool:=match d with | some q=>!Nat.beq q p | none=>true
def C0C (y:Operand) (p:Tmp):Bool:=match y with | .tmp q=>!Nat.beq q p | _=>true
theorem C1W {d:Option Tmp} {p:Tmp} (h:B8Y d p=true):d≠some p:=fun e=>by subst e;simp [B8Y] at h
theorem B6T {y:Operand} {p:Tmp} (h:C0C y p=true):y≠.tmp p:=fun e=>by subst e;simp [C0C] at h
def B3j (T:H5) (p:Tmp) (t u:TypeId) (y:Operand) (d:Option Tmp) (A:List AV) (st:St) (k:KA):Prop :=
 match T t,T u with
 | some r,some q=>evK A y fun v=>match Nat.blt p A.length&&B8Y d p&&Nat.blt 0 q.size&&Nat.beq (cellsOf (I1 r.zero)).length q.size&&(cellsOf (I1 r.zero)).all AV.one&&Nat.beq (cellsOf v).length q.size&&(cellsOf v).all AV.one&&C0C y p with
   | true=>B5H A p (.fptr v 0) fun A'=>A2i A' d (.tuple []) fun A''=>k A'' st
   | false=>False
 | _,_=>False
theorem B5G {v:AV} {cs:List AV} (h:cs.length=(cellsOf v).length) (h1:cs.all AV.one=true) (h2:0<cs.length):cellsOf (Q8 v 0 cs)=cs:=by
 rw [A6E (by omega) h1 h2]
 simp [h]
theorem A6O {P:Program} {T:H5} {M:J5} {frz:List Nat} {o1 o2:Oper} {p:Tmp} {t u:TypeId} {y:Operand} (hp:A6s frz o1 o2=some (p,t,u,y)) {A:List AV} {st:St} {k:KA} (h:B3j T p t u y o2.dst A st k) :
  o1.guard=none∧o2.guard=none∧aOp P T M o1 A st fun v st'=>aOp P T M o2 (K3 A o1.dst v) st' fun v' st''=>A5T k (K3 (K3 A o1.dst v) o2.dst v') st'':=by
 unfold A6s at hp
 split at hp
 case h_2=>cases hp
 rename_i hg1 hg2
 split at hp
 case h_2=>cases hp
 rename_i t' p' u' q' y' ho1 hd1 ho2
 split at hp
 case h_2=>cases hp
 rename_i hb
 cases hp
 simp only [D7f] at hb
 obtain rfl:=D9a hb.1
 refine ⟨hg1,hg2,?_⟩
 unfold B3j at h
 split at h
 case h_2=>exact h.elim
 rename_i r q hr hq
 rw [A5o] at h
 split at h
 case h_2=>exact h.elim
 rename_i hb
 simp only [D7f,D9O,Nat.beq_eq] at hb
 obtain ⟨⟨⟨⟨⟨⟨⟨hlt,hd⟩,hq0⟩,hz1⟩,hz2⟩,hv1⟩,hv2⟩,hy⟩:=hb
 have hd:=C1W hd
 have hy:=B6T hy
 rw [A9e,V6] at h
 have hk:=h
 unfold aOp
 rw [ho1,ho2,hd1]
 simp only [hr,hq]
 refine ⟨by omega,hz2,.inr fun b hb=>⟨hq0,?_⟩⟩
 have hevp:ev (K3 A (some p) (.optr (cellsOf (I1 r.zero)).length b 0 0)) (.tmp p)=.optr (cellsOf (I1 r.zero)).length b 0 0:=by
  simp [ev,K3,hlt]
 have hevy:ev (K3 A (some p) (.optr (cellsOf (I1 r.zero)).length b 0 0)) y=ev A y:=B8D fun t ht hyt=>by
  cases ht;exact hy hyt
 unfold A7M
 simp only [hq,hevp,hevy]
 have hst:upd st b ⟨t,(cellsOf (I1 r.zero)).length,1,fun _=>I1 r.zero⟩ b=some ⟨t,(cellsOf (I1 r.zero)).length,1,fun _=>I1 r.zero⟩:=by simp [upd]
 rw [hst]
 refine ⟨rfl,Nat.one_pos,hv1,hv2,by simp only;omega,_,_,C6O hb Nat.one_pos ?_ hlt hd,hk⟩
 simp only [I6,if_true]
 exact B5G (by omega) hv2 (by omega)
def A9k (frz:List Nat) (o om o2:Oper):Option (Tmp×Operand×Tmp×TypeId×TypeId×Operand) :=
 match om.guard,om.op,om.dst,A6s frz o o2 with
 | none,.assign x,some m,some (p,t,u,y)=>(match !Nat.beq m p&&C0C x p with | true=>some (m,x,p,t,u,y) | false=>none)
 | _,_,_,_=>none
def B1n (T:H5) (m:Tmp) (x:Operand) (p:Tmp) (t u:TypeId) (y:Operand) (d:Option Tmp) (A:List AV) (st:St) (k:KA):Prop :=
 evK A x fun v=>B5H A m v fun A1=>B3j T p t u y d A1 st k
theorem B3t {P:Program} {T:H5} {M:J5} {o:Oper} {t:TypeId} (ho:o.op=.alloc t) {A B:List AV} {st:St} {k:KK} (h:aOp P T M o A st k):aOp P T M o B st k:=by
 unfold aOp at *
 rw [ho] at h ⊢
 exact h
theorem B3K {P:Program} {T:H5} {M:J5} {frz:List Nat} {o1 om o2:Oper} {m p:Tmp} {x:Operand} {t u:TypeId} {y:Operand} (hp:A9k frz o1 om o2=some (m,x,p,t,u,y)) {A:List AV} {st:St} {k:KA} (h:B1n T m x p t u y o2.dst A st k) :
  o1.guard=none∧om.guard=none∧o2.guard=none∧aOp P T M o1 A st fun v st'=>aOp P T M om (K3 A o1.dst v) st' fun v1 st1=>aOp P T M o2 (K3 (K3 A o1.dst v) om.dst v1) st1 fun v' st''=>A5T k (K3 (K3 (K3 A o1.dst v) om.dst v1) o2.dst v') st'':=by
 unfold A9k at hp
 split at hp
 case h_2=>cases hp
 rename_i x' m' p' t' u' y' hg hop hdst hpr
 split at hp
 case h_2=>cases hp
 rename_i hb
 cases hp
 simp only [D7f,D7v] at hb
 have hmp:m≠p:=fun e=>by subst e;simp at hb
 have hxp:x≠.tmp p:=B6T hb.2
 unfold B1n at h
 rw [A5o,A9e] at h
 obtain ⟨g1,g2,h1⟩:=A6O (P:=P) (M:=M) hpr h
 have hal:∃ t0,o1.op=.alloc t0∧o1.dst=some p:=by
  unfold A6s at hpr
  split at hpr
  case h_2=>cases hpr
  split at hpr
  case h_2=>cases hpr
  rename_i t0 p0 u0 q0 y0 ho1 hd1 ho2
  split at hpr
  case h_2=>cases hpr
  cases hpr
  exact ⟨_,ho1,hd1⟩
 obtain ⟨t0,ho1,hd1⟩:=hal
 refine ⟨g1,hg,g2,S8 (fun v st' h2=>?_) (B3t (B:=A) ho1 h1)⟩
 have e1:ev (K3 A (some p) v) x=ev A x:=B8D fun t ht hx=>by cases ht;exact hxp hx
 have e2:K3 (K3 A (some p) v) (some m) (ev A x)=K3 (A.set m (ev A x)) (some p) v:=by
  have:=A7h A (x:=some p) (y:=some m) v (ev A x) (fun d hd e=>by cases hd;cases e;exact hmp rfl)
  exact this
 rw [hd1] at h2 ⊢
 rw [hdst]
 unfold aOp
 rw [hop]
 simp only [e1,e2]
 exact h2
def C3i (P:Program) (T:H5) (M:J5) (frz:List Nat) (ops:List Oper):List Oper→List AV→St→KA→Prop
 | [],A,st,k=>k A st
 | o::rest,A,st,k=>match (match rest with | [o2]=>A6s frz o o2 | _=>none) with
  | some (p,t,u,y)=>(match rest with | [o2]=>B3j T p t u y o2.dst A st k | _=>False)
  | none=>match (match rest with | [om,o2]=>A9k frz o om o2 | _=>none) with
  | some (m,x,p,t,u,y)=>(match rest with | [_,o2]=>B1n T m x p t u y o2.dst A st k | _=>False)
  | none=>A6Q ops o A
   (xOp P T M (inF frz o.dst) o.op A st fun v st'=>A2i A o.dst v fun A'=>C3i P T M frz ops rest A' st' k)
   (A2i A o.dst (.tuple []) fun A'=>C3i P T M frz ops rest A' st k)
theorem A4x {P:Program} {T:H5} {M:J5} {ops:List Oper} {o:Oper} {rest:List Oper} {A:List AV} {st:St} {k:KA} (hg:o.guard=none) (h:aOp P T M o A st fun v st'=>A9p P T M ops rest (K3 A o.dst v) st' k):A9p P T M ops (o::rest) A st k:=by
 unfold A9p A1h
 rw [hg]
 exact ⟨fun _=>h,fun e=>by cases e⟩
theorem B1m {P:Program} {T:H5} {M:J5} {frz:List Nat} {ops:List Oper}:∀ (l:List Oper) (A:List AV) (st:St) (k:KA),C3i P T M frz ops l A st k→A9p P T M ops l A st (A5T k)
 | [],A,st,k,h=>⟨A,st,A6d.refl A st,h⟩
 | o::rest,A,st,k,h=>by
  unfold C3i at h
  split at h
  ·rename_i p t u y hp
   split at hp
   ·rename_i o2
    obtain ⟨g1,g2,h1⟩:=A6O (P:=P) (M:=M) hp h
    exact A4x g1 (S8 (fun v st' h2=>A4x g2 h2) h1)
   ·cases hp
  ·split at h
   ·rename_i m x p t u y hp
    split at hp
    ·rename_i om o2
     obtain ⟨g1,g2,g3,h1⟩:=B3K (P:=P) (M:=M) hp h
     exact A4x g1 (S8 (fun v st' h2=>A4x g2 (S8 (fun v1 st1 h3=>A4x g3 h3) h2)) h1)
    ·cases hp
   obtain ⟨b,hb,h1,h2⟩:=A4T h
   unfold A9p
   rw [hb]
   refine ⟨fun e=>S8 (fun v st' hk=>?_) (A3S (h1 e)),fun e=>?_⟩
   ·rw [V6] at hk;exact B1m rest _ _ _ hk
   ·have:=h2 e;rw [V6] at this;exact B1m rest _ _ _ this
def B1Q (op:Op):Bool:=A1A op||(match op with | .load ..=>true | _=>false)
theorem B7c {r:C0} {cs:List AV} {i:Nat} {k:AV→Prop} (h:pick r cs i k):∃ v,(pick r cs i fun v'=>v'=v)∧k v:=by
 unfold pick at *
 split at h
 ·exact ⟨_,⟨h.1,rfl⟩,h.2⟩
 ·split at h
  ·exact ⟨_,rfl,h⟩
  ·exact h.elim
theorem B4V {P:Program} {T:H5} {M:J5} {o:Oper} (hd:B1Q o.op=true) {A:List AV} {st:St} {k:KK} (h:aOp P T M o A st k):∃ v,(aOp P T M o A st fun v' s=>v'=v∧s=st)∧k v st:=by
 unfold aOp at *
 split at h
 all_goals repeat' first
  | exact h.elim
  | exact ⟨_,⟨rfl,rfl⟩,h⟩
  | exact ⟨_,⟨h.1,rfl,rfl⟩,h.2⟩
  | exact ⟨_,⟨h.1,h.2.1,rfl,rfl⟩,h.2.2⟩
  | exact ⟨_,⟨h.1,h.2.1,h.2.2.1,rfl,rfl⟩,h.2.2.2⟩
  | exact ⟨_,⟨h.1,h.2.1,h.2.2.1,h.2.2.2.1,rfl,rfl⟩,h.2.2.2.2⟩
  | (obtain ⟨v,h1,h2⟩:=B7c h;exact ⟨v,A4I (fun v' e=>⟨e,rfl⟩) h1,h2⟩)
  | (obtain ⟨v,h1,h2⟩:=B7c h.2.2;exact ⟨v,⟨h.1,h.2.1,A4I (fun v' e=>⟨e,rfl⟩) h1⟩,h2⟩)
  | (obtain ⟨h0,h⟩:=h;split at h<;>first | exact h.elim | exact ⟨_,⟨h0,rfl,rfl⟩,h⟩)
  | (rename_i b hb;cases b;exact ⟨_,⟨(fun e=>by cases e),fun _=>⟨rfl,rfl⟩⟩,h.2 rfl⟩;exact ⟨_,⟨fun _=>⟨rfl,rfl⟩,fun e=>by cases e⟩,h.1 rfl⟩)
  | split at h
  | unfold A3A at h ⊢ | unfold A7J at h ⊢ | unfold A9r at h ⊢ | unfold A1w at h ⊢ | unfold A7K at h ⊢ | unfold A2r at h ⊢ | unfold A7L at h ⊢ | unfold A4w at h ⊢ | unfold A2I at h ⊢
  | (exfalso;clear h;simp_all [B1Q,A1A];done)
def B3J (P:Program) (T:H5) (M:J5) (frz:List Nat) (ops:List Oper) (eff ext:List Nat):List Nat→List AV→St→KA→Prop
 | [],A,st,k=>k A st
 | i::ord,A,st,k=>match ops[i]? with
  | none=>False
  | some o=>match (match ord with | [j]=>(match ops[j]? with | some o2=>(match eff.contains i&&eff.contains j with | true=>A6s frz o o2 | false=>none) | none=>none) | _=>none) with
   | some (p,t,u,y)=>(match ord with | [j]=>(match ops[j]? with | some o2=>B3j T p t u y o2.dst A st k | none=>False) | _=>False)
   | none=>A6Q ops o A
    (match eff.contains i with
     | true=>xOp P T M (inF frz o.dst) o.op A st fun v st'=>A2i A o.dst v fun A'=>B3J P T M frz ops eff ext ord A' st' k
     | false=>match ext.contains i with
      | true=>∃ v,(∀ st',Ext st st'→xOp P T M (inF frz o.dst) o.op A st' fun v' st''=>v'=v∧st''=st')∧A2i A o.dst v fun A'=>B3J P T M frz ops eff ext ord A' st k
      | false=>match B1Q o.op with
       | true=>xOp P T M (inF frz o.dst) o.op A st fun v _=>A2i A o.dst v fun A'=>B3J P T M frz ops eff ext ord A' st k
       | false=>∃ v,(xOp P T M (inF frz o.dst) o.op A st fun v' st''=>v'=v∧st''=st)∧A2i A o.dst v fun A'=>B3J P T M frz ops eff ext ord A' st k)
    (A2i A o.dst (.tuple []) fun A'=>B3J P T M frz ops eff ext ord A' st k)
theorem A7r {P:Program} {T:H5} {M:J5} {frz:List Nat} {ops:List Oper} {eff ext:List Nat}:∀ (ord:List Nat) (A:List AV) (st:St) (k:KA),B3J P T M frz ops eff ext ord A st k→B1H P T M ops eff ext ord A st (A5T k)
 | [],A,st,k,h=>⟨A,st,A6d.refl A st,h⟩
 | i::ord,A,st,k,h=>by
  unfold B3J at h
  cases ho:ops[i]? with
  | none=>rw [ho] at h;exact h.elim
  | some o =>
   rw [ho] at h
   simp only at h
   split at h
   ·rename_i p t u y hp
    split at hp
    ·rename_i j
     split at hp
     ·rename_i o2 ho2
      split at hp
      ·rename_i hee
       simp only [D7f] at hee
       simp only [ho2] at h
       obtain ⟨g1,g2,h1⟩:=A6O (P:=P) (M:=M) hp h
       unfold B1H
       rw [ho]
       have w1:A1h ops o A=some true:=by unfold A1h;rw [g1]
       simp only [w1]
       refine ⟨fun _=>?_,fun e=>by cases e⟩
       rw [hee.1]
       refine S8 (fun v st' h2=>?_) h1
       unfold B1H
       rw [ho2]
       have w2:A1h ops o2 (K3 A o.dst v)=some true:=by unfold A1h;rw [g2]
       simp only [w2]
       refine ⟨fun _=>?_,fun e=>by cases e⟩
       rw [hee.2]
       exact S8 (fun v' st'' h3=>h3) h2
      ·cases hp
     ·cases hp
    ·cases hp
   ·unfold B1H
    rw [ho]
    simp only
    obtain ⟨b,hb,h1,h2⟩:=A4T h
    rw [hb]
    simp only
    refine ⟨fun e=>?_,fun e=>?_⟩
    ·have h1:=h1 e
     split at h1
     ·rename_i hc
      rw [hc]
      exact S8 (fun v st' hk=>by rw [V6] at hk;exact A7r ord _ _ _ hk) (A3S h1)
     ·rename_i hc
      rw [hc]
      simp only
      split at h1
      ·rename_i hx
       rw [hx]
       obtain ⟨v,hv,hk⟩:=h1
       rw [V6] at hk
       exact ⟨v,fun st' hs=>A3S (hv st' hs),A7r ord _ _ _ hk⟩
      ·rename_i hx
       rw [hx]
       simp only
       split at h1
       ·rename_i hdet
        obtain ⟨v,hv,hk⟩:=B4V hdet (A3S h1)
        rw [V6] at hk
        exact ⟨v,hv,A7r ord _ _ _ hk⟩
       ·obtain ⟨v,hv,hk⟩:=h1
        rw [V6] at hk
        exact ⟨v,A3S hv,A7r ord _ _ _ hk⟩
    ·have:=h2 e
     rw [V6] at this
     exact A7r ord _ _ _ this
def B8a (P:Program) (T:H5) (M:J5) (frz:List Nat) (ops:List Oper) (i:Nat) (K:KA) (A:List AV) (st:St):Prop :=
 match ops[i]? with
 | none=>False
 | some o=>A6Q ops o A (xOp P T M (inF frz o.dst) o.op A st fun v st'=>A2i A o.dst v fun A'=>K A' st') (A2i A o.dst (.tuple []) fun A'=>K A' st)
def C8j (P:Program) (T:H5) (M:J5) (frz:List Nat) (ops:List Oper) (i:Nat) (K:KA) (A:List AV) (st:St):Prop :=
 match ops[i]? with
 | none=>False
 | some o=>A6Q ops o A
  (match B1Q o.op with
   | true=>xOp P T M (inF frz o.dst) o.op A st fun v _=>A2i A o.dst v fun A'=>K A' st
   | false=>∃ v,(xOp P T M (inF frz o.dst) o.op A st fun v' st''=>v'=v∧st''=st)∧A2i A o.dst v fun A'=>K A' st)
  (A2i A o.dst (.tuple []) fun A'=>K A' st)
def A7F (P:Program) (T:H5) (M:J5) (frz:List Nat) (ops:List Oper):OT→List AV→St→KA→Prop
 | .done,A,st,k=>k A st
 | .gen i t,A,st,k=>B8a P T M frz ops i (fun A' st'=>A7F P T M frz ops t A' st' k) A st
 | .qui i t,A,st,k=>C8j P T M frz ops i (fun A' st'=>A7F P T M frz ops t A' st' k) A st
 | .two i j t u,A,st,k=>B8a P T M frz ops i (fun A' st'=>A7F P T M frz ops t A' st' k) A st∧B8a P T M frz ops j (fun A' st'=>A7F P T M frz ops u A' st' k) A st
theorem B6a {P:Program} {T:H5} {M:J5} {frz:List Nat} {ops:List Oper} {i:Nat} {K K':KA} {A:List AV} {st:St} (hK:∀ A st,K A st→K' A st) (h:B8a P T M frz ops i K A st):B8x P T M ops i K' A st:=by
 unfold B8a at h
 unfold B8x
 cases ho:ops[i]? with
 | none=>rw [ho] at h;exact h.elim
 | some o =>
  rw [ho] at h
  simp only at h ⊢
  obtain ⟨b,hb,h1,h2⟩:=A4T h
  rw [hb]
  refine ⟨fun e=>?_,fun e=>?_⟩
  ·exact S8 (fun v st' hk=>by rw [V6] at hk;exact hK _ _ hk) (A3S (h1 e))
  ·have:=h2 e
   rw [V6] at this;exact hK _ _ this
theorem C8k {P:Program} {T:H5} {M:J5} {frz:List Nat} {ops:List Oper} {i:Nat} {K K':KA} {A:List AV} {st:St} (hK:∀ A st,K A st→K' A st) (h:C8j P T M frz ops i K A st):C6C P T M ops i K' A st:=by
 unfold C8j at h
 unfold C6C
 cases ho:ops[i]? with
 | none=>rw [ho] at h;exact h.elim
 | some o =>
  rw [ho] at h
  simp only at h ⊢
  obtain ⟨b,hb,h1,h2⟩:=A4T h
  rw [hb]
  refine ⟨fun e=>?_,fun e=>?_⟩
  ·have h1:=h1 e
   split at h1
   ·rename_i hdet
    obtain ⟨v,hv,hk⟩:=B4V hdet (A3S h1)
    rw [V6] at hk
    exact ⟨v,hv,hK _ _ hk⟩
   ·obtain ⟨v,hv,hk⟩:=h1
    rw [V6] at hk
    exact ⟨v,A3S hv,hK _ _ hk⟩
  ·have:=h2 e
   rw [V6] at this;exact hK _ _ this
theorem A6P {P:Program} {T:H5} {M:J5} {frz:List Nat} {ops:List Oper}:∀ (t:OT) (A:List AV) (st:St) (k:KA),A7F P T M frz ops t A st k→A8y P T M ops t A st (A5T k)
 | .done,A,st,k,h=>⟨A,st,A6d.refl A st,h⟩
 | .gen i t,A,st,k,h=>B6a (fun A st h=>A6P t A st k h) h
 | .qui i t,A,st,k,h=>C8k (fun A st h=>A6P t A st k h) h
 | .two i j t u,A,st,k,h=>⟨B6a (fun A st h=>A6P t A st k h) h.1,B6a (fun A st h=>A6P u A st k h) h.2⟩
def xDr (P:Program) (T:H5) (M:J5) (frz:List Nat) (ops:List Oper) (A:List AV) (st:St) (k:KA):Prop :=
 ∃ eff ext ord:List Nat,match ord with
  | []=>∃ t:OT,(Region.noSelect ops.toArray&&okT ops.toArray eff t ops.length (Array.replicate ops.length false))=true∧A7F P T M frz ops t A st k
  | _::_=>(Region.noSelect ops.toArray&&B2i ops.toArray eff ext ord (Array.replicate ops.length false)&&(ord.length==ops.length))=true∧B3J P T M frz ops eff ext ord A st k
theorem C6a {P:Program} {T:H5} {M:J5} {frz:List Nat} {ops:List Oper} {A:List AV} {st:St} {k:KA} (h:xDr P T M frz ops A st k):Dr P T M ops A st (A5T k):=by
 obtain ⟨eff,ext,ord,h⟩:=h
 refine ⟨eff,ext,ord,?_⟩
 split at h
 ·obtain ⟨t,h1,h2⟩:=h
  exact ⟨t,h1,A6P t _ _ _ h2⟩
 ·exact ⟨h.1,A7r _ _ _ _ h.2⟩
def B2H:Nat→(List AV→Prop)→Prop
 | 0,k=>k []
 | n+1,k=>B2H n fun A=>k (.junk::A)
theorem B2I:∀ (n:Nat) (k:List AV→Prop),B2H n k=k (List.replicate n .junk)
 | 0,k=>rfl
 | n+1,k=>by rw [B2H,B2I n];rfl
def A9f:List Nat→List AV→List AV→(List AV→Prop)→Prop
 | i::is,v::vs,A,k=>B5H A i v fun A'=>A9f is vs A' k
 | _,_,A,k=>k A
theorem B2O:∀ (is:List Nat) (vs A:List AV) (k:List AV→Prop),A9f is vs A k=k ((is.zip vs).foldl (fun A p=>A.set p.1 p.2) A)
 | [],vs,A,k=>by simp [A9f]
 | i::is,[],A,k=>by simp [A9f]
 | i::is,v::vs,A,k=>by simp only [A9f,A9e,B2O is vs,List.zip_cons_cons,D8o]
def A3X (A:List AV):List Nat→(List AV→Prop)→Prop
 | [],k=>k []
 | i::is,k=>B0M A i fun v=>A3X A is fun vs=>k (v::vs)
theorem A2K (A:List AV):∀ (is:List Nat) (k:List AV→Prop),A3X A is k=k (is.map fun i=>A.getD i AV.junk)
 | [],k=>rfl
 | i::is,k=>by simp only [A3X,A5r,A2K A is,D8k]
def C6b (T:H5) (A:List AV) (st:St) (r:ResultVar) (k:AV→Prop):Prop :=
 match r with
 | .tmp t=>B0M A t k
 | .cell t ty=>B0M A t fun p=>B8b T ty p st (fun v _=>k v)
def B8c (T:H5) (A:List AV) (st:St):List ResultVar→(List AV→Prop)→Prop
 | [],k=>k []
 | r::rs,k=>C6b T A st r fun v=>B8c T A st rs fun vs=>k (v::vs)
theorem B3l {T:H5} {A:List AV} {st:St}:∀ (rs:List ResultVar) (k:List AV→Prop),B8c T A st rs k→B0j T A st rs k
 | [],k,h=>h
 | r::rs,k,h=>by
  simp only [B8c] at h
  simp only [B0j]
  cases r with
  | tmp t=>simp only [C6b,B6i,A5r] at h ⊢;exact B3l rs _ h
  | cell t ty=>simp only [C6b,B6i,A5r] at h ⊢;exact A5e (fun v hv=>B3l rs _ hv) (B3i h)
def C3e (T:H5) (rs:List ResultVar) (post:KK):Exit→KA:=fun e A st=>match e with
 | .normal=>B8c T A st rs fun vs=>post (B0O vs) st
 | .ret=>B8c T A st rs fun vs=>post (B0O vs) st
 | _=>False
def C8f:Nat→(List AV→Prop)→Prop
 | 0,k=>k []
 | n+1,k=>C8f n fun A=>k (.tuple []::A)
theorem C1a:∀ (n:Nat) (k:List AV→Prop),C8f n k=k (List.replicate n (.tuple []))
 | 0,k=>rfl
 | n+1,k=>by rw [C8f,C1a n];rfl
def A4p:List AV→Nat→(List AV→Prop)→Prop
 | [],n,k=>C8f n k
 | v::vs,n,k=>A4p vs (n - 1) fun A=>k (v::A)
theorem B4B:∀ (args:List AV) (n:Nat) (k:List AV→Prop),A4p args n k=k (start args n)
 | [],n,k=>by rw [A4p,C1a];simp [start]
 | v::vs,n,k=>by
  rw [A4p,B4B vs (n - 1)]
  unfold start
  simp only [D7N,D9w]
  rw [show n - 1 - vs.length=n - (vs.length+1) from by omega]
noncomputable def C6e (P:Program) (T:H5) (M:J5) (frz:List Nat) (ops:List Oper) (l:List Oper):List AV→St→KA→Prop :=
 List.rec (motive:=fun _=>List AV→St→KA→Prop) (fun A st k=>k A st)
  (fun o rest ih A st k=>match (match rest with | [o2]=>A6s frz o o2 | _=>none) with
   | some (p,t,u,y)=>(match rest with | [o2]=>B3j T p t u y o2.dst A st k | _=>False)
   | none=>match (match rest with | [om,o2]=>A9k frz o om o2 | _=>none) with
   | some (m,x,p,t,u,y)=>(match rest with | [_,o2]=>B1n T m x p t u y o2.dst A st k | _=>False)
   | none=>A6Q ops o A
    (xOp P T M (inF frz o.dst) o.op A st fun v st'=>A2i A o.dst v fun A'=>ih A' st' k)
    (A2i A o.dst (.tuple []) fun A'=>ih A' st k)) l
theorem B6c {P:Program} {T:H5} {M:J5} {frz:List Nat} {ops:List Oper}:∀ l,C6e P T M frz ops l=C3i P T M frz ops l
 | []=>rfl
 | o::rest=>by
  funext A st k
  conv=>rhs;unfold C3i
  rw [←B6c rest]
  rfl
noncomputable def D4h (P:Program) (T:H5) (M:J5) (frz:List Nat) (ops:List Oper) (eff ext:List Nat) (ord:List Nat):List AV→St→KA→Prop :=
 List.rec (motive:=fun _=>List AV→St→KA→Prop) (fun A st k=>k A st)
  (fun i ord ih A st k=>match ops[i]? with
   | none=>False
   | some o=>match (match ord with | [j]=>(match ops[j]? with | some o2=>(match eff.contains i&&eff.contains j with | true=>A6s frz o o2 | false=>none) | none=>none) | _=>none) with
    | some (p,t,u,y)=>(match ord with | [j]=>(match ops[j]? with | some o2=>B3j T p t u y o2.dst A st k | none=>False) | _=>False)
    | none=>A6Q ops o A
     (match eff.contains i with
      | true=>xOp P T M (inF frz o.dst) o.op A st fun v st'=>A2i A o.dst v fun A'=>ih A' st' k
      | false=>match ext.contains i with
       | true=>∃ v,(∀ st',Ext st st'→xOp P T M (inF frz o.dst) o.op A st' fun v' st''=>v'=v∧st''=st')∧A2i A o.dst v fun A'=>ih A' st k
       | false=>match B1Q o.op with
        | true=>xOp P T M (inF frz o.dst) o.op A st fun v _=>A2i A o.dst v fun A'=>ih A' st k
        | false=>∃ v,(xOp P T M (inF frz o.dst) o.op A st fun v' st''=>v'=v∧st''=st)∧A2i A o.dst v fun A'=>ih A' st k)
     (A2i A o.dst (.tuple []) fun A'=>ih A' st k)) ord
theorem C1f {P:Program} {T:H5} {M:J5} {frz:List Nat} {ops:List Oper} {eff ext:List Nat}:∀ l,D4h P T M frz ops eff ext l=B3J P T M frz ops eff ext l
 | []=>rfl
 | i::ord=>by
  funext A st k
  conv=>rhs;unfold B3J
  rw [←C1f ord]
  rfl
noncomputable def C8I (P:Program) (T:H5) (M:J5) (frz:List Nat) (ops:List Oper) (t:OT):List AV→St→KA→Prop :=
 OT.rec (motive:=fun _=>List AV→St→KA→Prop) (fun A st k=>k A st)
  (fun i _ ih A st k=>B8a P T M frz ops i (fun A' st'=>ih A' st' k) A st)
  (fun i _ ih A st k=>C8j P T M frz ops i (fun A' st'=>ih A' st' k) A st)
  (fun i j _ _ iht ihu A st k=>B8a P T M frz ops i (fun A' st'=>iht A' st' k) A st∧B8a P T M frz ops j (fun A' st'=>ihu A' st' k) A st) t
theorem A6S {P:Program} {T:H5} {M:J5} {frz:List Nat} {ops:List Oper}:∀ t,C8I P T M frz ops t=A7F P T M frz ops t
 | .done=>rfl
 | .gen i t=>by
  funext A st k
  conv=>rhs;unfold A7F
  rw [←A6S t];rfl
 | .qui i t=>by
  funext A st k
  conv=>rhs;unfold A7F
  rw [←A6S t];rfl
 | .two i j t u=>by
  funext A st k
  conv=>rhs;unfold A7F
  rw [←A6S t,←A6S u];rfl
noncomputable def yDr (P:Program) (T:H5) (M:J5) (frz:List Nat) (ops:List Oper) (A:List AV) (st:St) (k:KA):Prop :=
 ∃ eff ext ord:List Nat,match ord with
  | []=>∃ t:OT,(Region.noSelect ops.toArray&&okT ops.toArray eff t ops.length (Array.replicate ops.length false))=true∧C8I P T M frz ops t A st k
  | _::_=>(Region.noSelect ops.toArray&&B2i ops.toArray eff ext ord (Array.replicate ops.length false)&&(ord.length==ops.length))=true∧D4h P T M frz ops eff ext ord A st k
theorem C6d {P:Program} {T:H5} {M:J5} {frz:List Nat} {ops:List Oper} {A:List AV} {st:St} {k:KA}:yDr P T M frz ops A st k=xDr P T M frz ops A st k:=by
 unfold yDr xDr
 simp only [C1f,A6S]
theorem A0 (st:St) (b:Nat) (x:L7):upd st b x b=some x:=by simp [upd]
theorem B0 {st:St} {b c:Nat} {x:L7} (h:c≠b):upd st b x c=st c:=by simp [upd,h]
theorem B7X {st:St} {b c:Nat} {x:L7} (h:upd st b x c=none):c≠b∧st c=none:=by
 unfold upd at h
 split at h
 ·cases h
 ·rename_i e;exact ⟨e,h⟩
theorem A7q (st:St) (b:Nat) (x y:L7):upd (upd st b x) b y=upd st b y:=funext fun c=>by unfold upd;split<;>rfl
theorem A3W {st:St} {b:Nat} (h:st b=none) (x:L7):del (upd st b x) b=st:=funext fun c=>by
 unfold del upd
 split
 ·rename_i e;rw [e,h]
 ·rfl
theorem call {P:Program} {f:FuncId} {args:List AV} {st:St} {post k:KK} (h:S P f args st post) (hk:∀ v st',post v st'→k v st'):A2l P f args st k:=by
 refine ⟨?_⟩;unfold A3z;exact ⟨args,st,A7.refl _ _,h.mono hk⟩
theorem B2 {P:Program} {f:FuncId} {args:List AV} {st:St} {v:AV} {k:KK} (h:S P f args st fun v' st'=>v'=v∧st'=st) (hk:k v st):A2l P f args st k :=
 call h fun v' st' ⟨e1,e2⟩=>by rw [e1,e2];exact hk
theorem E2 {P:Program} {f:FuncId} {args args':List AV} {st st':St} {k:KK} (hs:A7 args st args' st') (h:A2l P f args' st' k):A2l P f args st k:=by
 refine ⟨?_⟩
 have h:=h.out
 unfold A3z at *
 obtain ⟨a,s,h1,h2⟩:=h
 exact ⟨a,s,hs.trans h1,h2⟩
end Go.Ab
