/- Part 11 of the proof: contracts of the functions that the law reaches -/
import Derived.Test.YtbajhapmlfbelaaGreatRr10
set_option linter.unusedVariables false
set_option linter.unusedSimpArgs false
namespace Go.Ab
open Go
def A4A:List AV→Nat→(AV→Prop)→Prop
 | [],_,k=>k .junk
 | a::_,0,k=>k a
 | _::xs,n+1,k=>A4A xs n k
def A9c:List AV→Nat→AV→(List AV→Prop)→Prop
 | [],_,_,k=>k []
 | _::xs,0,v,k=>k (v::xs)
 | a::xs,n+1,v,k=>A9c xs n v fun xs'=>k (a::xs')
def S8 (A:List AV) (d:Option Tmp) (v:AV) (k:List AV→Prop):Prop:=match d with | some i=>A9c A i v k | none=>k A
theorem A0g:∀ (A:List AV) (i:Nat) (k:AV→Prop),A4A A i k=k (A.getD i .junk)
 | [],_,k=>by simp [A4A]
 | a::xs,0,k=>by simp [A4A]
 | a::xs,n+1,k=>by rw [A4A,A0g xs n k];simp
theorem A4b:∀ (A:List AV) (i:Nat) (v:AV) (k:List AV→Prop),A9c A i v k=k (A.set i v)
 | [],_,v,k=>by simp [A9c]
 | a::xs,0,v,k=>by simp [A9c]
 | a::xs,n+1,v,k=>by rw [A9c,A4b xs n v];simp
theorem J7 (A:List AV) (d:Option Tmp) (v:AV) (k:List AV→Prop):S8 A d v k=k (E3 A d v):=by
 cases d with
 | none=>rfl
 | some i=>exact A4b A i v k
def C0s (v:Value) (k:AV→Prop):Prop :=
 match v with
 | .bool b=>k (.bool b)
 | .int kk n=>k (.int kk n)
 | .string s=>k (.str s)
 | .pointer a=>(match a with | none=>k .nilp | some _=>k .junk)
 | .slice a l c=>(match a with | none=>(match l,c with | 0,0=>k .emp | _,_=>k .junk) | some _=>k .junk)
 | .nilFunc=>k .nilf
 | .nilIface=>k .nili
 | v=>k (H3 v)
theorem B7u (v:Value) (k:AV→Prop):C0s v k=k (H3 v):=by
 cases v with
 | pointer a=>cases a<;>rfl
 | slice a l c=>cases a with
  | none=>cases l<;>cases c<;>rfl
  | some a=>rfl
 | _=>rfl
def evK (A:List AV) (x:Operand) (k:AV→Prop):Prop :=
 match x with
 | .tmp t=>A4A A t k
 | .const v=>C0s v k
 | .global _=>k .junk
 | .func f=>k (.fn (.func f) [] [])
theorem A1k (A:List AV) (x:Operand) (k:AV→Prop):evK A x k=k (ev A x):=by
 cases x with
 | tmp t=>exact A0g A t k
 | const v=>exact B7u v k
 | _=>rfl
def B3g (A:List AV):List Operand→(List AV→Prop)→Prop
 | [],k=>k []
 | x::xs,k=>evK A x fun v=>B3g A xs fun vs=>k (v::vs)
theorem B2b (A:List AV):∀ (xs:List Operand) (k:List AV→Prop),B3g A xs k=k (xs.map (ev A))
 | [],k=>rfl
 | x::xs,k=>by simp only [B3g,A1k,B2b A xs,List.map_cons]
def B3f (A:List AV):List (Nat×Operand)→(List (Nat×AV)→Prop)→Prop
 | [],k=>k []
 | p::ps,k=>evK A p.2 fun v=>B3f A ps fun vs=>k ((p.1,v)::vs)
theorem A5u (A:List AV):∀ (ps:List (Nat×Operand)) (k:List (Nat×AV)→Prop),B3f A ps k=k (ps.map fun p=>(p.1,ev A p.2))
 | [],k=>rfl
 | p::ps,k=>by simp only [B3f,A1k,A5u A ps,List.map_cons]
def B7C (A:List AV) (x:Option Operand) (k:Option AV→Prop):Prop:=match x with | none=>k none | some y=>evK A y fun v=>k (some v)
theorem B7D (A:List AV) (x:Option Operand) (k:Option AV→Prop):B7C A x k=k (x.map (ev A)):=by
 cases x with
 | none=>rfl
 | some y=>exact A1k A y _
def A1D (b:Bool) (x y:Prop):Prop:=match b with | true=>x | false=>y
theorem O1 (b:Bool) (x y:Prop):A1D b x y↔(b=true→x)∧(b=false→y):=by cases b<;>simp [A1D]
theorem B6 {b:Bool} {x y:Prop} (h1:b=true→x) (h2:b=false→y):A1D b x y:=by cases b;exact h2 rfl;exact h1 rfl
structure T2 (P:Program) (f:FuncId) (args:List AV) (st:St) (k:KK):Prop where
 out:Y3 P f args st k
def B4A:List AV→List AV→(List AV→Prop)→Prop
 | [],b,k=>k b
 | v::a,b,k=>B4A a b fun l=>k (v::l)
theorem A1e:∀ (a b:List AV) (k:List AV→Prop),B4A a b k=k (a++b)
 | [],b,k=>rfl
 | v::a,b,k=>by rw [B4A,A1e a b];rfl
def B5n:List AV→Nat→(Nat→Prop)→Prop
 | [],n,k=>k n
 | _::l,n,k=>B5n l (n+1) k
theorem B2l:∀ (l:List AV) (n:Nat) (k:Nat→Prop),B5n l n k=k (n+l.length)
 | [],n,k=>by simp [B5n]
 | a::l,n,k=>by rw [B5n,B2l l];simp [Nat.add_assoc,Nat.add_comm 1]
def B0c:List AV→List AV→(List AV→Prop)→Prop
 | cs,[],k=>k cs
 | _::cs,v::new,k=>B0c cs new fun r=>k (v::r)
 | [],_::_,k=>k []
def A4g:List AV→Nat→List AV→(List AV→Prop)→Prop
 | cs,0,new,k=>B0c cs new k
 | a::cs,n+1,new,k=>A4g cs n new fun r=>k (a::r)
 | [],_+1,_,k=>k []
theorem B0d:∀ (cs new:List AV) (k:List AV→Prop),new.length≤cs.length→B0c cs new k=k (new++cs.drop new.length)
 | cs,[],k,_=>by simp [B0c]
 | c::cs,v::new,k,h=>by rw [B0c,B0d cs new _ (by simpa using h)];simp
 | [],v::new,k,h=>by simp at h
theorem A6N:∀ (cs:List AV) (n:Nat) (new:List AV) (k:List AV→Prop),n+new.length≤cs.length→A4g cs n new k=k (cs.take n++new++cs.drop (n+new.length))
 | cs,0,new,k,h=>by rw [A4g,B0d cs new k (by omega)];simp
 | a::cs,n+1,new,k,h=>by
  rw [A4g,A6N cs n new _ (by simp at h;omega)]
  simp [show n+1+new.length=(n+new.length)+1 from by omega]
 | [],n+1,new,k,h=>by simp at h
def A8i (place:Nat→Option (Nat×Nat)):List (Nat×AV)→List AV→(List AV→Prop)→Prop
 | [],cells,k=>k cells
 | (i,v)::rest,cells,k=>match place i with
  | none=>False
  | some (off,size)=>match Nat.beq (cellsOf v).length size&&Nat.ble (off+size) cells.length&&(cellsOf v).all AV.one&&Nat.blt 0 size with
   | true=>A4g cells off (cellsOf v) fun cells'=>A8i place rest cells' k
   | false=>False
theorem A4i {place:Nat→Option (Nat×Nat)}:∀ (ps:List (Nat×AV)) (cells:List AV) (k:List AV→Prop),A8i place ps cells k→∃ out,A1B place cells ps=some out∧k out
 | [],cells,k,h=>⟨cells,rfl,h⟩
 | (i,v)::ps,cells,k,h=>by
  unfold A8i at h
  unfold A1B
  split at h
  ·exact h.elim
  ·rename_i off size hp
   rw [hp]
   simp only
   split at h
   ·rename_i hb
    simp only [Bool.and_eq_true,Nat.beq_eq,Nat.ble_eq,Nat.blt_eq] at hb
    obtain ⟨⟨⟨h1,h2⟩,h3⟩,h4⟩:=hb
    rw [A6N _ _ _ _ (by omega)] at h
    rw [if_neg (by simp only [not_or,Decidable.not_not,Bool.not_eq_false];exact ⟨h1,by omega,h3,by omega⟩)]
    rw [h1] at h
    exact A4i ps _ k h
   ·exact h.elim
def B1O (T:C4) (t:TypeId) (ps:List (Nat×AV)) (k:AV→Prop):Prop :=
 match T t with
 | none=>False
 | some r=>match r.desc with
  | .struct fs=>match places T fs.toList with
   | none=>False
   | some pl=>A8i (fun i=>pl[i]?) ps (cellsOf (H3 r.zero)) fun out=>k (.agg out)
  | .array n el=>match T el with
   | none=>False
   | some q=>A8i (fun i=>some (i * q.size,q.size)) ps (cellsOf (H3 r.zero)) fun out=>k (.agg out)
  | _=>False
theorem B4b {T:C4} {t:TypeId} {ps:List (Nat×AV)} {k:AV→Prop} (h:B1O T t ps k):A3e T t ps k:=by
 unfold B1O at h
 unfold A3e
 split at h
 ·exact h.elim
 ·rename_i r hr
  rw [hr]
  simp only
  split at h
  ·rename_i fs hd
   rw [hd]
   simp only
   split at h
   ·exact h.elim
   ·rename_i pl hp
    rw [hp]
    simp only
    obtain ⟨out,h1,h2⟩:=A4i _ _ _ h
    rw [h1];exact h2
  ·rename_i n el hd
   rw [hd]
   simp only
   split at h
   ·exact h.elim
   ·rename_i q hq
    rw [hq]
    simp only
    obtain ⟨out,h1,h2⟩:=A4i _ _ _ h
    rw [h1];exact h2
  ·exact h.elim
def A2j:Nat→List AV→(List AV→List AV→Prop)→Prop
 | 0,l,k=>k [] l
 | n+1,v::l,k=>A2j n l fun a b=>k (v::a) b
 | _+1,[],k=>k [] []
theorem A4N:∀ (n:Nat) (l:List AV) (k:List AV→List AV→Prop),A2j n l k=k (l.take n) (l.drop n)
 | 0,l,k=>by simp [A2j]
 | n+1,v::l,k=>by rw [A2j,A4N n l];simp
 | n+1,[],k=>by simp [A2j]
def A6b (agg:Bool) (e:Nat):Nat→List AV→(List AV→Prop)→Prop
 | 0,_,k=>k []
 | n+1,out,k=>match agg with
  | true=>A2j e out fun a b=>A6b agg e n b fun r=>k (.agg a::r)
  | false=>match out with
   | v::b=>A6b agg e n b fun r=>k (v::r)
   | []=>False
theorem A9Q (agg:Bool) (e n:Nat) (out:List AV) (he:agg=false→e=1):Q3 agg e (n+1) out=(if agg then .agg (out.take e) else out.getD 0 .junk)::Q3 agg e n (out.drop e):=by
 unfold Q3
 rw [List.range_succ_eq_map,List.map_cons,List.map_map]
 congr 1
 ·cases agg<;>simp
 ·refine List.map_congr_left fun i _=>?_
  cases agg with
  | true =>
   simp only [Function.comp,if_true]
   rw [List.drop_drop,show (i+1) * e=e+i * e from by rw [Nat.add_mul];omega]
  | false =>
   have:=he rfl
   subst this
   simp
theorem A4B {agg:Bool} {e:Nat} (he:agg=false→e=1):∀ (n:Nat) (out:List AV) (k:List AV→Prop),A6b agg e n out k→k (Q3 agg e n out)
 | 0,out,k,h=>h
 | n+1,out,k,h=>by
  unfold A6b at h
  rw [A9Q agg e n out he]
  cases agg with
  | true =>
   simp only [A4N] at h
   exact A4B he n _ _ h
  | false =>
   simp only at h
   have:=he rfl
   subst this
   split at h
   ·rename_i v b;exact A4B he n _ _ h
   ·exact h.elim
def B8g (fz:Bool) (ty:TypeId) (v:AV) (st:St) (k:KK):Prop :=
 match Nat.blt 0 (cellsOf v).length&&(cellsOf v).all AV.one with
 | true=>(match fz with
  | true=>k (.fptr v 0) st
  | false=>B5n (cellsOf v) 0 fun n=>∀ b,st b=none→k (.optr n b 0 0) (upd st b ⟨ty,n,1,fun _=>v⟩))
 | false=>False
theorem B2L {fz:Bool} {ty:TypeId} {v:AV} {st:St} {k:KK} (h:B8g fz ty v st k):B0J ty v st k:=by
 unfold B8g at h
 split at h
 ·rename_i hb
  simp only [Bool.and_eq_true,Nat.blt_eq] at hb
  cases fz with
  | true=>exact ⟨hb.1,hb.2,.inl h⟩
  | false =>
   simp only [B2l,Nat.zero_add] at h
   exact ⟨hb.1,hb.2,.inr h⟩
 ·exact h.elim
def B9X (fz:Bool) (T:C4) (t:TypeId) (len:Nat) (ps:List (Nat×AV)) (st:St) (k:KK):Prop :=
 match T t with
 | none=>False
 | some r=>match r.desc with
  | .slice el=>match T el with
   | none=>False
   | some q=>match Nat.blt 0 (len * q.size)&&Nat.ble (len * q.size) 16777216&&Nat.beq q.zero.cells.size q.size&&(q.agg||Nat.beq q.size 1) with
    | false=>False
    | true=>A8i (fun i=>some (i * q.size,q.size)) ps ((List.range (len * q.size)).map fun i=>(cellsOf (H3 q.zero)).getD (i % q.size) .junk) fun out=>match out.all AV.one with
    | false=>False
    | true=>A6b q.agg q.size len out fun els=>match fz with
     | false=>k (.arr q.size len (fun i=>els.getD i .junk)) st
     | true=>∀ b,st b=none→k (.own q.size b 0 len) (upd st b ⟨el,q.size,len,fun i=>els.getD i .junk⟩)
  | _=>False
theorem B8j {fz:Bool} {T:C4} {t:TypeId} {len:Nat} {ps:List (Nat×AV)} {st:St} {k:KK} (h:B9X fz T t len ps st k):R3 T t len ps st k:=by
 unfold B9X at h
 unfold R3
 split at h
 ·exact h.elim
 ·rename_i r hr
  rw [hr]
  simp only
  split at h
  ·rename_i el hd
   rw [hd]
   simp only
   split at h
   ·exact h.elim
   ·rename_i q hq
    rw [hq]
    split at h
    ·exact h.elim
    rename_i hb
    simp only [Bool.and_eq_true,Nat.blt_eq,Nat.ble_eq,Nat.beq_eq,Bool.or_eq_true] at hb
    obtain ⟨⟨⟨h1,h2⟩,h3⟩,h4'⟩:=hb
    have h4:q.agg=false→q.size=1:=fun e=>h4'.resolve_left (by simp [e])
    refine ⟨h1,h2,h3,h4,?_⟩
    obtain ⟨out,ho,h⟩:=A4i _ _ _ h
    rw [ho]
    split at h
    ·exact h.elim
    rename_i hone
    have h:=A4B h4 _ _ _ h
    refine ⟨hone,?_⟩
    cases fz with
    | false=>exact .inl h
    | true=>exact .inr h
  ·exact h.elim
def A7a (r:B5) (cs:List AV) (o:Nat) (k:AV→Prop):Prop :=
 match r.agg with
 | true=>(match Nat.ble (o+r.size) cs.length with
  | true=>A2j o cs fun _ b=>A2j r.size b fun c _=>k (.agg c)
  | false=>False)
 | false=>A4A cs o fun y=>match y with | .junk=>False | y=>k y
theorem A7b {r:B5} {cs:List AV} {o:Nat} {k:AV→Prop} (h:A7a r cs o k):pick r cs o k:=by
 unfold A7a at h
 unfold pick
 split at h
 ·rename_i e
  rw [e]
  split at h
  ·rename_i hb
   simp only [A4N] at h
   exact ⟨by simpa using hb,h⟩
  ·exact h.elim
 ·rename_i e
  rw [e]
  rw [A0g] at h
  simp only
  rw [List.getD_eq_getElem?_getD] at h
  cases hy:cs[o]? with
  | none=>rw [hy] at h;exact h.elim
  | some y=>rw [hy] at h;simp only [Option.getD_some] at h;split at h;exact h.elim;exact h
structure B8f (T:C4) (t:TypeId) (e b i o:Nat) (st:St) (k:KK):Prop where
 out:Y4 T t (.optr e b i o) st k
def B0F (T:C4) (t:TypeId) (v:AV) (st:St) (k:KK):Prop :=
 match v with
 | .fptr v o=>(match T t with | some r=>A7a r (cellsOf v) o (fun y=>k y st) | none=>False)
 | .optr e b i o=>B8f T t e b i o st k
 | _=>False
theorem A6Y {T:C4} {t:TypeId} {v:AV} {st:St} {k:KK} (h:B0F T t v st k):Y4 T t v st k:=by
 unfold B0F at h
 split at h
 ·unfold Y4
  split at h
  ·rename_i hr;rw [hr];exact A7b h
  ·exact h.elim
 ·exact h.out
 ·exact h.elim
structure B6s (T:C4) (t:TypeId) (e b i o:Nat) (v:AV) (st:St) (k:KK):Prop where
 out:(match T t with | some r=>0<r.size | none=>False)∧A3h T t (.optr e b i o) v st k
def B6t (T:C4) (t:TypeId) (p v:AV) (st:St) (k:KK):Prop:=match p with | .optr e b i o=>B6s T t e b i o v st k | _=>False
structure A6W (T:C4) (t:TypeId) (s x:AV) (st:St) (k:KK):Prop where
 out:A1b T t s x st k
structure xMk (T:C4) (t:TypeId) (l c:AV) (st:St) (k:KK):Prop where
 out:A5N T t l c st k
def A6X (T:C4) (b:Builtin) (args:List AV) (ts:List TypeId) (st:St) (k:KK):Prop :=
 match b with
 | .append=>match args,ts with
  | [s,x],[t,u]=>(match Nat.beq t u with | true=>A6W T t s x st k | false=>False)
  | _,_=>False
 | b=>V2 T b args ts st k
theorem B0C {T:C4} {b:Builtin} {args:List AV} {ts:List TypeId} {st:St} {k:KK} (h:A6X T b args ts st k):V2 T b args ts st k:=by
 unfold A6X at h
 split at h
 ·unfold V2
  split at h
  ·split at h
   ·rename_i e;exact ⟨Nat.eq_of_beq_eq_true e,h.out⟩
   ·exact h.elim
  ·exact h.elim
 ·exact h
def A9v (P:Program) (T:C4) (M:D2) (r:AV) (name:String) (args:List AV) (st:St) (k:KK):Prop :=
 match r with
 | .iface t v=>match M t name with
  | some (f,none)=>T2 P f (v::args) st k
  | some (f,some el)=>B0F T el v st (fun u st'=>T2 P f (u::args) st' k)
  | none=>False
 | _=>False
theorem B1R {P:Program} {T:C4} {M:D2} {r:AV} {name:String} {args:List AV} {st:St} {k:KK} (h:A9v P T M r name args st k):A2u P T M r name args st k:=by
 unfold A9v at h
 unfold A2u
 split at h
 ·rename_i t v
  simp only
  split at h
  ·rename_i f hf;rw [hf];exact h.out
  ·rename_i f el hf;rw [hf];exact A1c (k:=fun u st'=>T2 P f (u::args) st' k) (fun u hu=>hu.out) (A6Y h)
  ·exact h.elim
 ·exact h.elim
def B9V (T:C4) (op:BinOp) (t:TypeId) (x y:AV) (k:AV→Prop):Prop :=
 match x,y,op with
 | .int kk a,.int _ b,.shl=>A1D (decide (b<0)) False (k (.int kk (kk.wrap (a * 2 ^ (min b.toNat kk.bits)))))
 | .int kk a,.int _ b,.shr=>A1D (decide (b<0)) False (k (.int kk (a.fdiv (2 ^ (min b.toNat kk.bits)))))
 | .int kk a,.int k' b,.quo=>match decide (kk=k') with | true=>A1D (decide (b=0)) False (k (.int kk (kk.wrap (a.tdiv b)))) | false=>False
 | .int kk a,.int k' b,.rem=>match decide (kk=k') with | true=>A1D (decide (b=0)) False (k (.int kk (a.tmod b))) | false=>False
 | x,y,op=>match A8m T op t x y with | some z=>k z | none=>False
theorem B8e {T:C4} {op:BinOp} {t:TypeId} {x y:AV} {k:AV→Prop} (h:B9V T op t x y k):match A8m T op t x y with | some z=>k z | none=>False:=by
 unfold B9V at h
 split at h
 ·obtain ⟨h1,h2⟩:=(O1 _ _ _).1 h
  rename_i kk a k' b
  by_cases hb:b<0
  ·exact (h1 (decide_eq_true hb)).elim
  ·simp only [A8m,A4o,if_neg hb];exact h2 (decide_eq_false hb)
 ·obtain ⟨h1,h2⟩:=(O1 _ _ _).1 h
  rename_i kk a k' b
  by_cases hb:b<0
  ·exact (h1 (decide_eq_true hb)).elim
  ·simp only [A8m,A4o,if_neg hb];exact h2 (decide_eq_false hb)
 ·rename_i kk a k' b
  by_cases hk:kk=k'
  ·rw [decide_eq_true hk] at h
   obtain ⟨h1,h2⟩:=(O1 _ _ _).1 h
   by_cases hb:b=0
   ·exact (h1 (decide_eq_true hb)).elim
   ·simp only [A8m,B6L,if_pos hk,if_neg hb];exact h2 (decide_eq_false hb)
  ·rw [decide_eq_false hk] at h;exact h.elim
 ·rename_i kk a k' b
  by_cases hk:kk=k'
  ·rw [decide_eq_true hk] at h
   obtain ⟨h1,h2⟩:=(O1 _ _ _).1 h
   by_cases hb:b=0
   ·exact (h1 (decide_eq_true hb)).elim
   ·simp only [A8m,B6L,if_pos hk,if_neg hb];exact h2 (decide_eq_false hb)
  ·rw [decide_eq_false hk] at h;exact h.elim
 ·exact h
def B6o (T:C4) (op:BinOp) (t:TypeId) (y:Operand) (vx vy:AV) (k:AV→Prop):Prop :=
 match B6M T op t y vx with
 | some z=>k z
 | none=>B9V T op t vx vy k
theorem B6p {T:C4} {op:BinOp} {t:TypeId} {y:Operand} {vx vy:AV} {k:AV→Prop} (h:B6o T op t y vx vy k):match A9z T op t y vx vy with | some z=>k z | none=>False:=by
 unfold B6o at h
 unfold A9z
 split at h
 ·rename_i z hz;rw [hz];exact h
 ·rename_i hz;rw [hz];exact B8e h
structure B9W (s:ByteArray) (j:Int) (k:AV→Prop):Prop where
 out:∃ h:0≤j∧j.toNat<s.size,k (.int .u8 ((s[j.toNat]'h.2).toNat:Int))
def B1Q (T:C4) (t:TypeId) (v i:AV) (k:AV→Prop):Prop :=
 match T t with
 | none=>False
 | some r=>match r.desc,v,i with
  | .string,.str s,.int _ j=>B9W s j k
  | .array n el,.agg cs,.int _ j=>match T el with
   | none=>False
   | some q=>(q.agg=false∧j.toNat * q.size<cs.length∧0≤j∧j<n)∧A4A cs (j.toNat * q.size) k
  | _,_,_=>False
theorem B4e {T:C4} {t:TypeId} {v i:AV} {k:AV→Prop} (h:B1Q T t v i k):A3g T t v i k:=by
 unfold B1Q at h
 unfold A3g
 split at h
 ·exact h.elim
 rename_i r hr
 rw [hr]
 simp only
 split at h
 ·rename_i s kk j hd
  rw [hd]
  exact h.out
 ·rename_i n el cs kk j hd
  rw [hd]
  split at h
  ·exact h.elim
  ·rename_i q hq
   rw [A0g] at h
   simp only [hq]
   exact h
 ·exact h.elim
def B7y (n:Nat) (k:Nat→Prop):Prop :=
 match n with
 | 0=>k 0 | 1=>k 1 | 2=>k 2 | 3=>k 3 | 4=>k 4 | 5=>k 5 | 6=>k 6 | 7=>k 7 | 8=>k 8 | 9=>k 9 | 10=>k 10 | 11=>k 11 | 12=>k 12 | 13=>k 13 | 14=>k 14 | 15=>k 15 | 16=>k 16 | 17=>k 17 | 18=>k 18 | 19=>k 19 | 20=>k 20 | n=>k n
theorem B2p (n:Nat) (k:Nat→Prop):B7y n k=k n:=by unfold B7y;split<;>rfl
def A3z (T:C4) (s:TypeId) (p:AV) (f:Nat) (k:AV→Prop):Prop :=
 match T s with
 | none=>False
 | some r=>match r.desc with
  | .struct fs=>match fs[f]? with
   | none=>False
   | some fl=>match T fl.type with
    | none=>False
    | some q=>match Nat.blt 0 q.size with
     | true=>(match p with
      | .fptr v o=>B7y (o+fl.offset) fun o'=>k (.fptr v o')
      | .optr e b i o=>B7y (o+fl.offset) fun o'=>k (.optr e b i o')
      | _=>False)
     | false=>False
  | _=>False
theorem A7u {T:C4} {s:TypeId} {p:AV} {f:Nat} {k:AV→Prop} (h:A3z T s p f k):Q0 T s p f k:=by
 unfold A3z at h
 unfold Q0
 split at h
 ·exact h.elim
 rename_i r hr
 rw [hr]
 simp only
 split at h
 case h_2=>exact h.elim
 rename_i fs hd
 rw [hd]
 simp only
 split at h
 ·exact h.elim
 rename_i fl hf
 rw [hf]
 simp only
 split at h
 ·exact h.elim
 rename_i q hq
 rw [hq]
 simp only
 split at h
 ·rename_i hb
  refine ⟨by simpa using hb,?_⟩
  split at h
  ·rw [B2p] at h;exact h
  ·rw [B2p] at h;exact h
  ·exact h.elim
 ·exact h.elim
def B1P (T:C4) (s:TypeId) (v:AV) (f:Nat) (k:AV→Prop):Prop :=
 match T s with
 | none=>False
 | some r=>match r.desc with
  | .struct fs=>match fs[f]? with
   | none=>False
   | some fl=>match T fl.type with
    | none=>False
    | some q=>match v with
     | .agg cs=>A7a q cs fl.offset k
     | _=>False
  | _=>False
theorem B4d {T:C4} {s:TypeId} {p:AV} {f:Nat} {k:AV→Prop} (h:B1P T s p f k):A3f T s p f k:=by
 unfold B1P at h
 unfold A3f
 split at h
 ·exact h.elim
 rename_i r hr
 rw [hr]
 simp only
 split at h
 case h_2=>exact h.elim
 rename_i fs hd
 rw [hd]
 simp only
 split at h
 ·exact h.elim
 rename_i fl hf
 rw [hf]
 simp only
 split at h
 ·exact h.elim
 rename_i q hq
 rw [hq]
 simp only
 split at h
 ·exact A7b h
 ·exact h.elim
def xOp (P:Program) (T:C4) (M:D2) (fz:Bool) (op:Op) (A:List AV) (st:St) (k:KK):Prop :=
 match op with
 | .move x=>evK A x fun v=>k v st
 | .assign x=>evK A x fun v=>k v st
 | .pick c x y=>evK A c fun v=>match v with | .bool b=>A1D b (evK A x fun u=>k u st) (evK A y fun u=>k u st) | _=>False
 | .binOp op t x y _=>evK A x fun v=>evK A y fun u=>B6o T op t y v u (fun z=>k z st)
 | .unOp op _ x=>evK A x fun v=>match aUn op v with | some z=>k z st | none=>False
 | .load t x=>evK A x fun v=>B0F T t v st k
 | .store t x y=>evK A x fun v=>evK A y fun u=>B6t T t v u st k
 | .alloc t=>match T t with | some r=>B8g fz t (H3 r.zero) st k | none=>False
 | .box t x=>evK A x fun v=>B8g fz t v st k
 | .build t ps=>B3f A ps.toList fun vs=>B1O T t vs (fun v=>k v st)
 | .buildSlice t n ps=>match n with
  | 0=>B3f A ps.toList fun vs=>A9C T t vs st k
  | m+1=>B3f A ps.toList fun vs=>B9X fz T t (m+1) vs st k
 | .nilCheck x=>evK A x fun v=>match A2v v with | true=>k v st | false=>False
 | .convert s d x=>evK A x fun v=>match A3G T s d v with | some z=>k z st | none=>False
 | .makeInterface t x=>evK A x fun v=>match A8F T t with | true=>k (.iface t v) st | false=>False
 | .makeFunc fn fs cs=>B3g A fs.toList fun us=>B3g A cs.toList fun vs=>k (.fn fn us vs) st
 | .makeSlice t l c=>evK A l fun v=>evK A c fun u=>xMk T t v u st k
 | .slice t x lo hi mx=>evK A x fun v=>B7C A lo fun l=>B7C A hi fun h=>B7C A mx fun m=>A4p T t v l h m (fun v=>k v st)
 | .fieldAddr s x f=>evK A x fun v=>A3z T s v f (fun v=>k v st)
 | .field s x f=>evK A x fun v=>B1P T s v f (fun v=>k v st)
 | .indexAddr t x i=>evK A x fun v=>evK A i fun u=>T6 T t v u (fun v=>k v st)
 | .index t x i=>evK A x fun v=>evK A i fun u=>B1Q T t v u (fun v=>k v st)
 | .typeAssert x _ t ok=>evK A x fun v=>match A5s T v t ok with | some z=>k z st | none=>False
 | .extract x i=>evK A x fun v=>A0E v i (fun v=>k v st)
 | .call c=>B3g A c.args.toList fun args=>match c.callee with
  | .builtin b=>A6X T b args c.argTypes.toList st k
  | .invoke r name=>evK A r fun v=>A9v P T M v name args st k
  | .value f=>evK A f fun v=>match v with
   | .fn g fs cs=>(match g with | .func n=>B4A fs args fun l=>B4A l cs fun l=>T2 P n l st k | _=>False)
   | _=>False
 | _=>False
theorem A0b {P:Program} {T:C4} {M:D2} {fz:Bool} {o:Oper} {A:List AV} {st:St} {k:KK} (h:xOp P T M fz o.op A st k):aOp P T M o A st k:=by
 obtain ⟨dst,op,type,pos,after,guard⟩:=o
 unfold aOp
 cases op<;>simp only [xOp,A1k,B2b,A5u,B7D,A1e] at h ⊢<;>try exact h
 case alloc t =>
  split at h
  ·rename_i r hr;rw [hr];exact B2L h
  ·exact h.elim
 case box t x=>exact B2L h
 case fieldAddr t x f=>exact A7u h
 case field t x f=>exact B4d h
 case binOp op t x y _=>exact B6p h
 case index t x f=>exact B4e h
 case load t x=>exact A6Y h
 case store t x y =>
  unfold B6t at h
  split at h
  ·rename_i hv;rw [hv];exact h.out
  ·exact h.elim
 case makeSlice t l c=>exact h.out
 case build t ps=>exact B4b h
 case buildSlice t n ps =>
  cases n with
  | zero=>simp only [A5u] at h;exact h
  | succ m=>simp only [A5u] at h;exact B8j h
 case pick c x y =>
  split at h
  ·rename_i b hb
   simp only [hb]
   exact (O1 _ _ _).1 h
  ·exact h.elim
 case nilCheck x =>
  split at h
  ·rename_i hb;exact ⟨hb,h⟩
  ·exact h.elim
 case makeInterface t x =>
  split at h
  ·rename_i hb;exact ⟨hb,h⟩
  ·exact h.elim
 case call c =>
  obtain ⟨callee,args,ts⟩:=c
  cases callee with
  | builtin b=>exact B0C h
  | invoke r name=>simp only [A1k] at h;exact B1R h
  | value f =>
   simp only [A1k,A1e] at h
   simp only [A1d]
   split at h
   ·rename_i g fs cs hf
    rw [hf]
    simp only
    split at h
    ·exact h.out
    ·exact h.elim
   ·exact h.elim
def A2r (ops:List Oper) (o:Oper) (A:List AV) (x y:Prop):Prop :=
 match o.guard with
 | none=>x
 | some (g,want)=>match ops[g]? with
  | none=>y
  | some p=>match p.dst with
   | none=>y
   | some d=>A4A A d fun v=>match v with
    | .bool b=>(match want with | true=>A1D b x y | false=>A1D b y x)
    | .tuple _=>y
    | _=>False
theorem A0W {ops:List Oper} {o:Oper} {A:List AV} {x y:Prop} (h:A2r ops o A x y):∃ b,P5 ops o A=some b∧(b=true→x)∧(b=false→y):=by
 unfold A2r at h
 unfold P5
 split at h
 ·rename_i hg;exact ⟨true,by simp [hg],fun _=>h,fun e=>by cases e⟩
 ·rename_i g want hg
  simp only [hg]
  split at h
  ·rename_i hp;exact ⟨false,by simp [hp],(fun e=>by cases e),fun _=>h⟩
  ·rename_i p hp
   simp only [hp]
   split at h
   ·rename_i hd;exact ⟨false,by simp [hd],(fun e=>by cases e),fun _=>h⟩
   ·rename_i d hd
    simp only [hd]
    rw [A0g] at h
    rw [List.getD_eq_getElem?_getD] at h
    cases hA:A[d]? with
    | none=>exact ⟨false,by simp,(fun e=>by cases e),fun _=>by rw [hA] at h;exact h.elim⟩
    | some v =>
     rw [hA] at h
     simp only [Option.getD_some] at h
     split at h
     ·rename_i b
      cases want with
      | true=>exact ⟨b,by simp,(O1 _ _ _).1 h⟩
      | false=>exact ⟨!b,by simp,fun e=>((O1 _ _ _).1 h).2 (by simpa using e),fun e=>((O1 _ _ _).1 h).1 (by simpa using e)⟩
     ·exact ⟨false,rfl,(fun e=>by cases e),fun _=>h⟩
     ·exact h.elim
def inF (frz:List Nat) (d:Option Tmp):Bool:=match d with | some p=>frz.contains p | none=>false
def A2f (frz:List Nat) (o1 o2:Oper):Option (Tmp×TypeId×TypeId×Operand) :=
 match o1.guard,o2.guard with
 | none,none=>match o1.op,o1.dst,o2.op with
  | .alloc t,some p,.store u (.tmp q) y=>(match Nat.beq p q&&frz.contains p with | true=>some (p,t,u,y) | false=>none)
  | _,_,_=>none
 | _,_=>none
theorem B0Y {rd:Addr→Option Value} {sz:Nat→Nat} {v v':AV} {r:Nat} {c:Value} (he:cellsOf v=cellsOf v') (h:Rep rd sz (.fptr v r) c):Rep rd sz (.fptr v' r) c:=by
 cases h with
 | fptr v r a g hr hg=>exact .fptr v' r a g (fun j hj=>hr j (by rw [he];exact hj)) (fun j y hy=>hg j y (by rw [he];exact hy))
theorem B7h {A:List AV} {st:St} {p b:Nat} {d:Option Tmp} {x y:N9} {v:AV} {e:Nat} (hb:st b=none) (hn:0<y.n) (hv:cellsOf (y.f 0)=cellsOf v) (hp:p<A.length) (hd:d≠some p) :
  A1S (E3 (E3 A (some p) (.optr e b 0 0)) d (.tuple [])) (upd (upd st b x) b y) (E3 (E3 A (some p) (.fptr v 0)) d (.tuple [])) st:=by
 intro w a hA hS
 have hst:upd (upd st b x) b y b=some y:=by simp [upd]
 have hne:∀ c,c≠b→upd (upd st b x) b y c=st c:=fun c hc=>by simp [upd,hc]
 have he:P2 (upd (upd st b x) b y) w st w:=⟨rfl,rfl,rfl,Nat.le_refl _,fun c _ hs=>⟨rfl,by
  by_cases hc:c=b
  ·subst hc;exact hb
  ·rw [hne c hc] at hs;exact hs⟩,fun _=>Nat.le_refl _⟩
 obtain ⟨cs,hok⟩:=hS b y hst
 refine ⟨⟨by have:=hA.len;simp [E3] at this ⊢;cases d<;>simp_all,fun i u hu=>?_,hA.defers⟩,fun c z hz=>?_,he⟩
 ·by_cases hi:i=p
  ·subst hi
   have hpt:(E3 (E3 A (some i) (.optr e b 0 0)) d (.tuple []))[i]?=some (.optr e b 0 0):=by
    cases d with
    | none=>simp [E3,hp]
    | some q=>simp only [E3];rw [List.getElem?_set_ne (fun h=>hd (by rw [h]))];simp [hp]
   have hpt':(E3 (E3 A (some i) (.fptr v 0)) d (.tuple []))[i]?=some (.fptr v 0):=by
    cases d with
    | none=>simp [E3,hp]
    | some q=>simp only [E3];rw [List.getElem?_set_ne (fun h=>hd (by rw [h]))];simp [hp]
   rw [hpt'] at hu
   cases hu
   obtain ⟨c,hc1,hc2⟩:=hA.at_ i _ hpt
   refine ⟨c,hc1,?_⟩
   cases hc2
   have:=B0Y hv (A4W (hok.evo he rfl) hb hn)
   simpa using this
  ·have hsame:(E3 (E3 A (some p) (.optr e b 0 0)) d (.tuple []))[i]?=(E3 (E3 A (some p) (.fptr v 0)) d (.tuple []))[i]?:=by
    cases d with
    | none=>simp only [E3];rw [List.getElem?_set_ne (fun h=>hi h.symm),List.getElem?_set_ne (fun h=>hi h.symm)]
    | some q =>
     simp only [E3,List.getElem?_set,List.length_set]
     rw [if_neg (show ¬ p=i from fun h=>hi h.symm),if_neg (show ¬ p=i from fun h=>hi h.symm)]
   rw [←hsame] at hu
   obtain ⟨c,hc1,hc2⟩:=hA.at_ i u hu
   exact ⟨c,hc1,he.rep hc2⟩
 ·have hc:c≠b:=fun h=>by rw [h,hb] at hz;cases hz
  obtain ⟨ds,hd'⟩:=hS c z (by rw [hne c hc];exact hz)
  exact ⟨ds,hd'.evo he rfl⟩
def B1k (d:Option Tmp) (p:Tmp):Bool:=match d with | some q=>!Nat.beq q p | none=>true
def B2r (y:Operand) (p:Tmp):Bool:=match y with | .tmp q=>!Nat.beq q p | _=>true
theorem B3u {d:Option Tmp} {p:Tmp} (h:B1k d p=true):d≠some p:=fun e=>by subst e;simp [B1k] at h
theorem A9Z {y:Operand} {p:Tmp} (h:B2r y p=true):y≠.tmp p:=fun e=>by subst e;simp [B2r] at h
def A6Z (T:C4) (p:Tmp) (t u:TypeId) (y:Operand) (d:Option Tmp) (A:List AV) (st:St) (k:KA):Prop :=
 match T t,T u with
 | some r,some q=>evK A y fun v=>match Nat.blt p A.length&&B1k d p&&Nat.blt 0 q.size&&Nat.beq (cellsOf (H3 r.zero)).length q.size&&(cellsOf (H3 r.zero)).all AV.one&&Nat.beq (cellsOf v).length q.size&&(cellsOf v).all AV.one&&B2r y p with
   | true=>A9c A p (.fptr v 0) fun A'=>S8 A' d (.tuple []) fun A''=>k A'' st
   | false=>False
 | _,_=>False
theorem A9b {v:AV} {cs:List AV} (h:cs.length=(cellsOf v).length) (h1:cs.all AV.one=true) (h2:0<cs.length):cellsOf (J0 v 0 cs)=cs:=by
 rw [A2i (by omega) h1 h2]
 simp [h]
theorem A2p {P:Program} {T:C4} {M:D2} {frz:List Nat} {o1 o2:Oper} {p:Tmp} {t u:TypeId} {y:Operand} (hp:A2f frz o1 o2=some (p,t,u,y)) {A:List AV} {st:St} {k:KA} (h:A6Z T p t u y o2.dst A st k) :
  o1.guard=none∧o2.guard=none∧aOp P T M o1 A st fun v st'=>aOp P T M o2 (E3 A o1.dst v) st' fun v' st''=>A1I k (E3 (E3 A o1.dst v) o2.dst v') st'':=by
 unfold A2f at hp
 split at hp
 case h_2=>cases hp
 rename_i hg1 hg2
 split at hp
 case h_2=>cases hp
 rename_i t' p' u' q' y' ho1 hd1 ho2
 split at hp
 case h_2=>cases hp
 rename_i hb
 cases hp
 simp only [Bool.and_eq_true] at hb
 obtain rfl:=Nat.eq_of_beq_eq_true hb.1
 refine ⟨hg1,hg2,?_⟩
 unfold A6Z at h
 split at h
 case h_2=>exact h.elim
 rename_i r q hr hq
 rw [A1k] at h
 split at h
 case h_2=>exact h.elim
 rename_i hb
 simp only [Bool.and_eq_true,Nat.blt_eq,Nat.beq_eq] at hb
 obtain ⟨⟨⟨⟨⟨⟨⟨hlt,hd⟩,hq0⟩,hz1⟩,hz2⟩,hv1⟩,hv2⟩,hy⟩:=hb
 have hd:=B3u hd
 have hy:=A9Z hy
 rw [A4b,J7] at h
 have hk:=h
 unfold aOp
 rw [ho1,ho2,hd1]
 simp only [hr,hq]
 refine ⟨by omega,hz2,.inr fun b hb=>⟨hq0,?_⟩⟩
 have hevp:ev (E3 A (some p) (.optr (cellsOf (H3 r.zero)).length b 0 0)) (.tmp p)=.optr (cellsOf (H3 r.zero)).length b 0 0:=by
  simp [ev,E3,hlt]
 have hevy:ev (E3 A (some p) (.optr (cellsOf (H3 r.zero)).length b 0 0)) y=ev A y:=B0W fun t ht hyt=>by
  cases ht;exact hy hyt
 unfold A3h
 simp only [hq,hevp,hevy]
 have hst:upd st b ⟨t,(cellsOf (H3 r.zero)).length,1,fun _=>H3 r.zero⟩ b=some ⟨t,(cellsOf (H3 r.zero)).length,1,fun _=>H3 r.zero⟩:=by simp [upd]
 rw [hst]
 refine ⟨rfl,Nat.one_pos,hv1,hv2,by simp only;omega,_,_,B7h hb Nat.one_pos ?_ hlt hd,hk⟩
 simp only [M1,if_true]
 exact A9b (by omega) hv2 (by omega)
def A4h (frz:List Nat) (o om o2:Oper):Option (Tmp×Operand×Tmp×TypeId×TypeId×Operand) :=
 match om.guard,om.op,om.dst,A2f frz o o2 with
 | none,.assign x,some m,some (p,t,u,y)=>(match !Nat.beq m p&&B2r x p with | true=>some (m,x,p,t,u,y) | false=>none)
 | _,_,_,_=>none
def A5J (T:C4) (m:Tmp) (x:Operand) (p:Tmp) (t u:TypeId) (y:Operand) (d:Option Tmp) (A:List AV) (st:St) (k:KA):Prop :=
 evK A x fun v=>A9c A m v fun A1=>A6Z T p t u y d A1 st k
theorem A7f {P:Program} {T:C4} {M:D2} {o:Oper} {t:TypeId} (ho:o.op=.alloc t) {A B:List AV} {st:St} {k:KK} (h:aOp P T M o A st k):aOp P T M o B st k:=by
 unfold aOp at *
 rw [ho] at h ⊢
 exact h
theorem A7w {P:Program} {T:C4} {M:D2} {frz:List Nat} {o1 om o2:Oper} {m p:Tmp} {x:Operand} {t u:TypeId} {y:Operand} (hp:A4h frz o1 om o2=some (m,x,p,t,u,y)) {A:List AV} {st:St} {k:KA} (h:A5J T m x p t u y o2.dst A st k) :
  o1.guard=none∧om.guard=none∧o2.guard=none∧aOp P T M o1 A st fun v st'=>aOp P T M om (E3 A o1.dst v) st' fun v1 st1=>aOp P T M o2 (E3 (E3 A o1.dst v) om.dst v1) st1 fun v' st''=>A1I k (E3 (E3 (E3 A o1.dst v) om.dst v1) o2.dst v') st'':=by
 unfold A4h at hp
 split at hp
 case h_2=>cases hp
 rename_i x' m' p' t' u' y' hg hop hdst hpr
 split at hp
 case h_2=>cases hp
 rename_i hb
 cases hp
 simp only [Bool.and_eq_true,Bool.not_eq_true'] at hb
 have hmp:m≠p:=fun e=>by subst e;simp at hb
 have hxp:x≠.tmp p:=A9Z hb.2
 unfold A5J at h
 rw [A1k,A4b] at h
 obtain ⟨g1,g2,h1⟩:=A2p (P:=P) (M:=M) hpr h
 have hal:∃ t0,o1.op=.alloc t0∧o1.dst=some p:=by
  unfold A2f at hpr
  split at hpr
  case h_2=>cases hpr
  split at hpr
  case h_2=>cases hpr
  rename_i t0 p0 u0 q0 y0 ho1 hd1 ho2
  split at hpr
  case h_2=>cases hpr
  cases hpr
  exact ⟨_,ho1,hd1⟩
 obtain ⟨t0,ho1,hd1⟩:=hal
 refine ⟨g1,hg,g2,I9 (fun v st' h2=>?_) (A7f (B:=A) ho1 h1)⟩
 have e1:ev (E3 A (some p) v) x=ev A x:=B0W fun t ht hx=>by cases ht;exact hxp hx
 have e2:E3 (E3 A (some p) v) (some m) (ev A x)=E3 (A.set m (ev A x)) (some p) v:=by
  have:=A2I A (x:=some p) (y:=some m) v (ev A x) (fun d hd e=>by cases hd;cases e;exact hmp rfl)
  exact this
 rw [hd1] at h2 ⊢
 rw [hdst]
 unfold aOp
 rw [hop]
 simp only [e1,e2]
 exact h2
def B4f (P:Program) (T:C4) (M:D2) (frz:List Nat) (ops:List Oper):List Oper→List AV→St→KA→Prop
 | [],A,st,k=>k A st
 | o::rest,A,st,k=>match (match rest with | [o2]=>A2f frz o o2 | _=>none) with
  | some (p,t,u,y)=>(match rest with | [o2]=>A6Z T p t u y o2.dst A st k | _=>False)
  | none=>match (match rest with | [om,o2]=>A4h frz o om o2 | _=>none) with
  | some (m,x,p,t,u,y)=>(match rest with | [_,o2]=>A5J T m x p t u y o2.dst A st k | _=>False)
  | none=>A2r ops o A
   (xOp P T M (inF frz o.dst) o.op A st fun v st'=>S8 A o.dst v fun A'=>B4f P T M frz ops rest A' st' k)
   (S8 A o.dst (.tuple []) fun A'=>B4f P T M frz ops rest A' st k)
theorem A0F {P:Program} {T:C4} {M:D2} {ops:List Oper} {o:Oper} {rest:List Oper} {A:List AV} {st:St} {k:KA} (hg:o.guard=none) (h:aOp P T M o A st fun v st'=>A4n P T M ops rest (E3 A o.dst v) st' k):A4n P T M ops (o::rest) A st k:=by
 unfold A4n P5
 rw [hg]
 exact ⟨fun _=>h,fun e=>by cases e⟩
theorem A5I {P:Program} {T:C4} {M:D2} {frz:List Nat} {ops:List Oper}:∀ (l:List Oper) (A:List AV) (st:St) (k:KA),B4f P T M frz ops l A st k→A4n P T M ops l A st (A1I k)
 | [],A,st,k,h=>⟨A,st,A1S.refl A st,h⟩
 | o::rest,A,st,k,h=>by
  unfold B4f at h
  split at h
  ·rename_i p t u y hp
   split at hp
   ·rename_i o2
    obtain ⟨g1,g2,h1⟩:=A2p (P:=P) (M:=M) hp h
    exact A0F g1 (I9 (fun v st' h2=>A0F g2 h2) h1)
   ·cases hp
  ·split at h
   ·rename_i m x p t u y hp
    split at hp
    ·rename_i om o2
     obtain ⟨g1,g2,g3,h1⟩:=A7w (P:=P) (M:=M) hp h
     exact A0F g1 (I9 (fun v st' h2=>A0F g2 (I9 (fun v1 st1 h3=>A0F g3 h3) h2)) h1)
    ·cases hp
   obtain ⟨b,hb,h1,h2⟩:=A0W h
   unfold A4n
   rw [hb]
   refine ⟨fun e=>I9 (fun v st' hk=>?_) (A0b (h1 e)),fun e=>?_⟩
   ·rw [J7] at hk;exact A5I rest _ _ _ hk
   ·have:=h2 e;rw [J7] at this;exact A5I rest _ _ _ this
def A6d (op:Op):Bool:=Q4 op||(match op with | .load ..=>true | _=>false)
theorem B0e {r:B5} {cs:List AV} {i:Nat} {k:AV→Prop} (h:pick r cs i k):∃ v,(pick r cs i fun v'=>v'=v)∧k v:=by
 unfold pick at *
 split at h
 ·exact ⟨_,⟨h.1,rfl⟩,h.2⟩
 ·split at h
  ·exact ⟨_,rfl,h⟩
  ·exact h.elim
theorem A8z {P:Program} {T:C4} {M:D2} {o:Oper} (hd:A6d o.op=true) {A:List AV} {st:St} {k:KK} (h:aOp P T M o A st k):∃ v,(aOp P T M o A st fun v' s=>v'=v∧s=st)∧k v st:=by
 unfold aOp at *
 split at h
 all_goals repeat' first
  | exact h.elim
  | exact ⟨_,⟨rfl,rfl⟩,h⟩
  | exact ⟨_,⟨h.1,rfl,rfl⟩,h.2⟩
  | exact ⟨_,⟨h.1,h.2.1,rfl,rfl⟩,h.2.2⟩
  | exact ⟨_,⟨h.1,h.2.1,h.2.2.1,rfl,rfl⟩,h.2.2.2⟩
  | exact ⟨_,⟨h.1,h.2.1,h.2.2.1,h.2.2.2.1,rfl,rfl⟩,h.2.2.2.2⟩
  | (obtain ⟨v,h1,h2⟩:=B0e h;exact ⟨v,A0R (fun v' e=>⟨e,rfl⟩) h1,h2⟩)
  | (obtain ⟨v,h1,h2⟩:=B0e h.2.2;exact ⟨v,⟨h.1,h.2.1,A0R (fun v' e=>⟨e,rfl⟩) h1⟩,h2⟩)
  | (obtain ⟨h0,h⟩:=h;split at h<;>first | exact h.elim | exact ⟨_,⟨h0,rfl,rfl⟩,h⟩)
  | (rename_i b hb;cases b;exact ⟨_,⟨(fun e=>by cases e),fun _=>⟨rfl,rfl⟩⟩,h.2 rfl⟩;exact ⟨_,⟨fun _=>⟨rfl,rfl⟩,fun e=>by cases e⟩,h.1 rfl⟩)
  | split at h
  | unfold Y4 at h ⊢ | unfold A3e at h ⊢ | unfold A4p at h ⊢ | unfold Q0 at h ⊢ | unfold A3f at h ⊢ | unfold T6 at h ⊢ | unfold A3g at h ⊢ | unfold A0E at h ⊢ | unfold V2 at h ⊢
  | (exfalso;clear h;simp_all [A6d,Q4];done)
def A7v (P:Program) (T:C4) (M:D2) (frz:List Nat) (ops:List Oper) (eff ext:List Nat):List Nat→List AV→St→KA→Prop
 | [],A,st,k=>k A st
 | i::ord,A,st,k=>match ops[i]? with
  | none=>False
  | some o=>match (match ord with | [j]=>(match ops[j]? with | some o2=>(match eff.contains i&&eff.contains j with | true=>A2f frz o o2 | false=>none) | none=>none) | _=>none) with
   | some (p,t,u,y)=>(match ord with | [j]=>(match ops[j]? with | some o2=>A6Z T p t u y o2.dst A st k | none=>False) | _=>False)
   | none=>A2r ops o A
    (match eff.contains i with
     | true=>xOp P T M (inF frz o.dst) o.op A st fun v st'=>S8 A o.dst v fun A'=>A7v P T M frz ops eff ext ord A' st' k
     | false=>match ext.contains i with
      | true=>∃ v,(∀ st',Ext st st'→xOp P T M (inF frz o.dst) o.op A st' fun v' st''=>v'=v∧st''=st')∧S8 A o.dst v fun A'=>A7v P T M frz ops eff ext ord A' st k
      | false=>match A6d o.op with
       | true=>xOp P T M (inF frz o.dst) o.op A st fun v _=>S8 A o.dst v fun A'=>A7v P T M frz ops eff ext ord A' st k
       | false=>∃ v,(xOp P T M (inF frz o.dst) o.op A st fun v' st''=>v'=v∧st''=st)∧S8 A o.dst v fun A'=>A7v P T M frz ops eff ext ord A' st k)
    (S8 A o.dst (.tuple []) fun A'=>A7v P T M frz ops eff ext ord A' st k)
theorem A2M {P:Program} {T:C4} {M:D2} {frz:List Nat} {ops:List Oper} {eff ext:List Nat}:∀ (ord:List Nat) (A:List AV) (st:St) (k:KA),A7v P T M frz ops eff ext ord A st k→A5X P T M ops eff ext ord A st (A1I k)
 | [],A,st,k,h=>⟨A,st,A1S.refl A st,h⟩
 | i::ord,A,st,k,h=>by
  unfold A7v at h
  cases ho:ops[i]? with
  | none=>rw [ho] at h;exact h.elim
  | some o =>
   rw [ho] at h
   simp only at h
   split at h
   ·rename_i p t u y hp
    split at hp
    ·rename_i j
     split at hp
     ·rename_i o2 ho2
      split at hp
      ·rename_i hee
       simp only [Bool.and_eq_true] at hee
       simp only [ho2] at h
       obtain ⟨g1,g2,h1⟩:=A2p (P:=P) (M:=M) hp h
       unfold A5X
       rw [ho]
       have w1:P5 ops o A=some true:=by unfold P5;rw [g1]
       simp only [w1]
       refine ⟨fun _=>?_,fun e=>by cases e⟩
       rw [hee.1]
       refine I9 (fun v st' h2=>?_) h1
       unfold A5X
       rw [ho2]
       have w2:P5 ops o2 (E3 A o.dst v)=some true:=by unfold P5;rw [g2]
       simp only [w2]
       refine ⟨fun _=>?_,fun e=>by cases e⟩
       rw [hee.2]
       exact I9 (fun v' st'' h3=>h3) h2
      ·cases hp
     ·cases hp
    ·cases hp
   ·unfold A5X
    rw [ho]
    simp only
    obtain ⟨b,hb,h1,h2⟩:=A0W h
    rw [hb]
    simp only
    refine ⟨fun e=>?_,fun e=>?_⟩
    ·have h1:=h1 e
     split at h1
     ·rename_i hc
      rw [hc]
      exact I9 (fun v st' hk=>by rw [J7] at hk;exact A2M ord _ _ _ hk) (A0b h1)
     ·rename_i hc
      rw [hc]
      simp only
      split at h1
      ·rename_i hx
       rw [hx]
       obtain ⟨v,hv,hk⟩:=h1
       rw [J7] at hk
       exact ⟨v,fun st' hs=>A0b (hv st' hs),A2M ord _ _ _ hk⟩
      ·rename_i hx
       rw [hx]
       simp only
       split at h1
       ·rename_i hdet
        obtain ⟨v,hv,hk⟩:=A8z hdet (A0b h1)
        rw [J7] at hk
        exact ⟨v,hv,A2M ord _ _ _ hk⟩
       ·obtain ⟨v,hv,hk⟩:=h1
        rw [J7] at hk
        exact ⟨v,A0b hv,A2M ord _ _ _ hk⟩
    ·have:=h2 e
     rw [J7] at this
     exact A2M ord _ _ _ this
def B0E (P:Program) (T:C4) (M:D2) (frz:List Nat) (ops:List Oper) (i:Nat) (K:KA) (A:List AV) (st:St):Prop :=
 match ops[i]? with
 | none=>False
 | some o=>A2r ops o A (xOp P T M (inF frz o.dst) o.op A st fun v st'=>S8 A o.dst v fun A'=>K A' st') (S8 A o.dst (.tuple []) fun A'=>K A' st)
def B8h (P:Program) (T:C4) (M:D2) (frz:List Nat) (ops:List Oper) (i:Nat) (K:KA) (A:List AV) (st:St):Prop :=
 match ops[i]? with
 | none=>False
 | some o=>A2r ops o A
  (match A6d o.op with
   | true=>xOp P T M (inF frz o.dst) o.op A st fun v _=>S8 A o.dst v fun A'=>K A' st
   | false=>∃ v,(xOp P T M (inF frz o.dst) o.op A st fun v' st''=>v'=v∧st''=st)∧S8 A o.dst v fun A'=>K A' st)
  (S8 A o.dst (.tuple []) fun A'=>K A' st)
def A2Z (P:Program) (T:C4) (M:D2) (frz:List Nat) (ops:List Oper):OT→List AV→St→KA→Prop
 | .done,A,st,k=>k A st
 | .gen i t,A,st,k=>B0E P T M frz ops i (fun A' st'=>A2Z P T M frz ops t A' st' k) A st
 | .qui i t,A,st,k=>B8h P T M frz ops i (fun A' st'=>A2Z P T M frz ops t A' st' k) A st
 | .two i j t u,A,st,k=>B0E P T M frz ops i (fun A' st'=>A2Z P T M frz ops t A' st' k) A st∧B0E P T M frz ops j (fun A' st'=>A2Z P T M frz ops u A' st' k) A st
theorem A9u {P:Program} {T:C4} {M:D2} {frz:List Nat} {ops:List Oper} {i:Nat} {K K':KA} {A:List AV} {st:St} (hK:∀ A st,K A st→K' A st) (h:B0E P T M frz ops i K A st):B0R P T M ops i K' A st:=by
 unfold B0E at h
 unfold B0R
 cases ho:ops[i]? with
 | none=>rw [ho] at h;exact h.elim
 | some o =>
  rw [ho] at h
  simp only at h ⊢
  obtain ⟨b,hb,h1,h2⟩:=A0W h
  rw [hb]
  refine ⟨fun e=>?_,fun e=>?_⟩
  ·exact I9 (fun v st' hk=>by rw [J7] at hk;exact hK _ _ hk) (A0b (h1 e))
  ·have:=h2 e
   rw [J7] at this;exact hK _ _ this
theorem B8i {P:Program} {T:C4} {M:D2} {frz:List Nat} {ops:List Oper} {i:Nat} {K K':KA} {A:List AV} {st:St} (hK:∀ A st,K A st→K' A st) (h:B8h P T M frz ops i K A st):B6R P T M ops i K' A st:=by
 unfold B8h at h
 unfold B6R
 cases ho:ops[i]? with
 | none=>rw [ho] at h;exact h.elim
 | some o =>
  rw [ho] at h
  simp only at h ⊢
  obtain ⟨b,hb,h1,h2⟩:=A0W h
  rw [hb]
  refine ⟨fun e=>?_,fun e=>?_⟩
  ·have h1:=h1 e
   split at h1
   ·rename_i hdet
    obtain ⟨v,hv,hk⟩:=A8z hdet (A0b h1)
    rw [J7] at hk
    exact ⟨v,hv,hK _ _ hk⟩
   ·obtain ⟨v,hv,hk⟩:=h1
    rw [J7] at hk
    exact ⟨v,A0b hv,hK _ _ hk⟩
  ·have:=h2 e
   rw [J7] at this;exact hK _ _ this
theorem A2q {P:Program} {T:C4} {M:D2} {frz:List Nat} {ops:List Oper}:∀ (t:OT) (A:List AV) (st:St) (k:KA),A2Z P T M frz ops t A st k→A3P P T M ops t A st (A1I k)
 | .done,A,st,k,h=>⟨A,st,A1S.refl A st,h⟩
 | .gen i t,A,st,k,h=>A9u (fun A st h=>A2q t A st k h) h
 | .qui i t,A,st,k,h=>B8i (fun A st h=>A2q t A st k h) h
 | .two i j t u,A,st,k,h=>⟨A9u (fun A st h=>A2q t A st k h) h.1,A9u (fun A st h=>A2q u A st k h) h.2⟩
def xDr (P:Program) (T:C4) (M:D2) (frz:List Nat) (ops:List Oper) (A:List AV) (st:St) (k:KA):Prop :=
 ∃ eff ext ord:List Nat,match ord with
  | []=>∃ t:OT,(Region.noSelect ops.toArray&&okT ops.toArray eff t ops.length (Array.replicate ops.length false))=true∧A2Z P T M frz ops t A st k
  | _::_=>(Region.noSelect ops.toArray&&A6n ops.toArray eff ext ord (Array.replicate ops.length false)&&(ord.length==ops.length))=true∧A7v P T M frz ops eff ext ord A st k
theorem B6q {P:Program} {T:C4} {M:D2} {frz:List Nat} {ops:List Oper} {A:List AV} {st:St} {k:KA} (h:xDr P T M frz ops A st k):Dr P T M ops A st (A1I k):=by
 obtain ⟨eff,ext,ord,h⟩:=h
 refine ⟨eff,ext,ord,?_⟩
 split at h
 ·obtain ⟨t,h1,h2⟩:=h
  exact ⟨t,h1,A2q t _ _ _ h2⟩
 ·exact ⟨h.1,A2M _ _ _ _ h.2⟩
def A6D:Nat→(List AV→Prop)→Prop
 | 0,k=>k []
 | n+1,k=>A6D n fun A=>k (.junk::A)
theorem A6E:∀ (n:Nat) (k:List AV→Prop),A6D n k=k (List.replicate n .junk)
 | 0,k=>rfl
 | n+1,k=>by rw [A6D,A6E n];rfl
def A4c:List Nat→List AV→List AV→(List AV→Prop)→Prop
 | i::is,v::vs,A,k=>A9c A i v fun A'=>A4c is vs A' k
 | _,_,A,k=>k A
theorem A6H:∀ (is:List Nat) (vs A:List AV) (k:List AV→Prop),A4c is vs A k=k ((is.zip vs).foldl (fun A p=>A.set p.1 p.2) A)
 | [],vs,A,k=>by simp [A4c]
 | i::is,[],A,k=>by simp [A4c]
 | i::is,v::vs,A,k=>by simp only [A4c,A4b,A6H is vs,List.zip_cons_cons,List.foldl_cons]
def A0h (A:List AV):List Nat→(List AV→Prop)→Prop
 | [],k=>k []
 | i::is,k=>A4A A i fun v=>A0h A is fun vs=>k (v::vs)
theorem V4 (A:List AV):∀ (is:List Nat) (k:List AV→Prop),A0h A is k=k (is.map fun i=>A.getD i AV.junk)
 | [],k=>rfl
 | i::is,k=>by simp only [A0h,A0g,V4 A is,List.map_cons]
def B6r (T:C4) (A:List AV) (st:St) (r:ResultVar) (k:AV→Prop):Prop :=
 match r with
 | .tmp t=>A4A A t k
 | .cell t ty=>A4A A t fun p=>B0F T ty p st (fun v _=>k v)
def B0G (T:C4) (A:List AV) (st:St):List ResultVar→(List AV→Prop)→Prop
 | [],k=>k []
 | r::rs,k=>B6r T A st r fun v=>B0G T A st rs fun vs=>k (v::vs)
theorem A7c {T:C4} {A:List AV} {st:St}:∀ (rs:List ResultVar) (k:List AV→Prop),B0G T A st rs k→A4T T A st rs k
 | [],k,h=>h
 | r::rs,k,h=>by
  simp only [B0G] at h
  simp only [A4T]
  cases r with
  | tmp t=>simp only [B6r,A9A,A0g] at h ⊢;exact A7c rs _ h
  | cell t ty=>simp only [B6r,A9A,A0g] at h ⊢;exact A1c (fun v hv=>A7c rs _ hv) (A6Y h)
def B4c (T:C4) (rs:List ResultVar) (post:KK):Exit→KA:=fun e A st=>match e with
 | .normal=>B0G T A st rs fun vs=>post (A6p vs) st
 | .ret=>B0G T A st rs fun vs=>post (A6p vs) st
 | _=>False
def B8a:Nat→(List AV→Prop)→Prop
 | 0,k=>k []
 | n+1,k=>B8a n fun A=>k (.tuple []::A)
theorem B2J:∀ (n:Nat) (k:List AV→Prop),B8a n k=k (List.replicate n (.tuple []))
 | 0,k=>rfl
 | n+1,k=>by rw [B8a,B2J n];rfl
def A0z:List AV→Nat→(List AV→Prop)→Prop
 | [],n,k=>B8a n k
 | v::vs,n,k=>A0z vs (n - 1) fun A=>k (v::A)
theorem A8f:∀ (args:List AV) (n:Nat) (k:List AV→Prop),A0z args n k=k (start args n)
 | [],n,k=>by rw [A0z,B2J];simp [start]
 | v::vs,n,k=>by
  rw [A0z,A8f vs (n - 1)]
  unfold start
  simp only [List.length_cons,List.cons_append]
  rw [show n - 1 - vs.length=n - (vs.length+1) from by omega]
noncomputable def B6v (P:Program) (T:C4) (M:D2) (frz:List Nat) (ops:List Oper) (l:List Oper):List AV→St→KA→Prop :=
 List.rec (motive:=fun _=>List AV→St→KA→Prop) (fun A st k=>k A st)
  (fun o rest ih A st k=>match (match rest with | [o2]=>A2f frz o o2 | _=>none) with
   | some (p,t,u,y)=>(match rest with | [o2]=>A6Z T p t u y o2.dst A st k | _=>False)
   | none=>match (match rest with | [om,o2]=>A4h frz o om o2 | _=>none) with
   | some (m,x,p,t,u,y)=>(match rest with | [_,o2]=>A5J T m x p t u y o2.dst A st k | _=>False)
   | none=>A2r ops o A
    (xOp P T M (inF frz o.dst) o.op A st fun v st'=>S8 A o.dst v fun A'=>ih A' st' k)
    (S8 A o.dst (.tuple []) fun A'=>ih A' st k)) l
theorem A9w {P:Program} {T:C4} {M:D2} {frz:List Nat} {ops:List Oper}:∀ l,B6v P T M frz ops l=B4f P T M frz ops l
 | []=>rfl
 | o::rest=>by
  funext A st k
  conv=>rhs;unfold B4f
  rw [←A9w rest]
  rfl
noncomputable def C3U (P:Program) (T:C4) (M:D2) (frz:List Nat) (ops:List Oper) (eff ext:List Nat) (ord:List Nat):List AV→St→KA→Prop :=
 List.rec (motive:=fun _=>List AV→St→KA→Prop) (fun A st k=>k A st)
  (fun i ord ih A st k=>match ops[i]? with
   | none=>False
   | some o=>match (match ord with | [j]=>(match ops[j]? with | some o2=>(match eff.contains i&&eff.contains j with | true=>A2f frz o o2 | false=>none) | none=>none) | _=>none) with
    | some (p,t,u,y)=>(match ord with | [j]=>(match ops[j]? with | some o2=>A6Z T p t u y o2.dst A st k | none=>False) | _=>False)
    | none=>A2r ops o A
     (match eff.contains i with
      | true=>xOp P T M (inF frz o.dst) o.op A st fun v st'=>S8 A o.dst v fun A'=>ih A' st' k
      | false=>match ext.contains i with
       | true=>∃ v,(∀ st',Ext st st'→xOp P T M (inF frz o.dst) o.op A st' fun v' st''=>v'=v∧st''=st')∧S8 A o.dst v fun A'=>ih A' st k
       | false=>match A6d o.op with
        | true=>xOp P T M (inF frz o.dst) o.op A st fun v _=>S8 A o.dst v fun A'=>ih A' st k
        | false=>∃ v,(xOp P T M (inF frz o.dst) o.op A st fun v' st''=>v'=v∧st''=st)∧S8 A o.dst v fun A'=>ih A' st k)
     (S8 A o.dst (.tuple []) fun A'=>ih A' st k)) ord
theorem B2M {P:Program} {T:C4} {M:D2} {frz:List Nat} {ops:List Oper} {eff ext:List Nat}:∀ l,C3U P T M frz ops eff ext l=A7v P T M frz ops eff ext l
 | []=>rfl
 | i::ord=>by
  funext A st k
  conv=>rhs;unfold A7v
  rw [←B2M ord]
  rfl
noncomputable def B8C (P:Program) (T:C4) (M:D2) (frz:List Nat) (ops:List Oper) (t:OT):List AV→St→KA→Prop :=
 OT.rec (motive:=fun _=>List AV→St→KA→Prop) (fun A st k=>k A st)
  (fun i _ ih A st k=>B0E P T M frz ops i (fun A' st'=>ih A' st' k) A st)
  (fun i _ ih A st k=>B8h P T M frz ops i (fun A' st'=>ih A' st' k) A st)
  (fun i j _ _ iht ihu A st k=>B0E P T M frz ops i (fun A' st'=>iht A' st' k) A st∧B0E P T M frz ops j (fun A' st'=>ihu A' st' k) A st) t
theorem A2t {P:Program} {T:C4} {M:D2} {frz:List Nat} {ops:List Oper}:∀ t,B8C P T M frz ops t=A2Z P T M frz ops t
 | .done=>rfl
 | .gen i t=>by
  funext A st k
  conv=>rhs;unfold A2Z
  rw [←A2t t];rfl
 | .qui i t=>by
  funext A st k
  conv=>rhs;unfold A2Z
  rw [←A2t t];rfl
 | .two i j t u=>by
  funext A st k
  conv=>rhs;unfold A2Z
  rw [←A2t t,←A2t u];rfl
noncomputable def yDr (P:Program) (T:C4) (M:D2) (frz:List Nat) (ops:List Oper) (A:List AV) (st:St) (k:KA):Prop :=
 ∃ eff ext ord:List Nat,match ord with
  | []=>∃ t:OT,(Region.noSelect ops.toArray&&okT ops.toArray eff t ops.length (Array.replicate ops.length false))=true∧B8C P T M frz ops t A st k
  | _::_=>(Region.noSelect ops.toArray&&A6n ops.toArray eff ext ord (Array.replicate ops.length false)&&(ord.length==ops.length))=true∧C3U P T M frz ops eff ext ord A st k
theorem B6u {P:Program} {T:C4} {M:D2} {frz:List Nat} {ops:List Oper} {A:List AV} {st:St} {k:KA}:yDr P T M frz ops A st k=xDr P T M frz ops A st k:=by
 unfold yDr xDr
 simp only [B2M,A2t]
theorem A0 (st:St) (b:Nat) (x:N9):upd st b x b=some x:=by simp [upd]
theorem A3 {st:St} {b c:Nat} {x:N9} (h:c≠b):upd st b x c=st c:=by simp [upd,h]
theorem B0A {st:St} {b c:Nat} {x:N9} (h:upd st b x c=none):c≠b∧st c=none:=by
 unfold upd at h
 split at h
 ·cases h
 ·rename_i e;exact ⟨e,h⟩
theorem A2B {st:St} {b:Nat} (h:st b=none) (x:N9):del (upd st b x) b=st:=funext fun c=>by
 unfold del upd
 split
 ·rename_i e;rw [e,h]
 ·rfl
theorem call {P:Program} {f:FuncId} {args:List AV} {st:St} {post k:KK} (h:S P f args st post) (hk:∀ v st',post v st'→k v st'):T2 P f args st k:=by
 refine ⟨?_⟩;unfold Y3;exact ⟨args,st,A4.refl _ _,h.mono hk⟩
theorem B3 {P:Program} {f:FuncId} {args:List AV} {st:St} {v:AV} {k:KK} (h:S P f args st fun v' st'=>v'=v∧st'=st) (hk:k v st):T2 P f args st k :=
 call h fun v' st' ⟨e1,e2⟩=>by rw [e1,e2];exact hk
theorem F7 {P:Program} {f:FuncId} {args args':List AV} {st st':St} {k:KK} (hs:A4 args st args' st') (h:T2 P f args' st' k):T2 P f args st k:=by
 refine ⟨?_⟩
 have h:=h.out
 unfold Y3 at *
 obtain ⟨a,s,h1,h2⟩:=h
 exact ⟨a,s,hs.trans h1,h2⟩
end Go.Ab
