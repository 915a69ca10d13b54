/- Part 11 of the proof: contracts of the functions that the law reaches -/
import Derived.Test.YtbajhapmlfbelaaGreatQn10
set_option linter.unusedVariables false
set_option linter.unusedSimpArgs false
namespace Go.Ab
open Go
def A3A:List AV→Nat→(AV→Prop)→Prop
 | [],_,k=>k .junk
 | a::_,0,k=>k a
 | _::xs,n+1,k=>A3A xs n k
def A7N:List AV→Nat→AV→(List AV→Prop)→Prop
 | [],_,_,k=>k []
 | _::xs,0,v,k=>k (v::xs)
 | a::xs,n+1,v,k=>A7N xs n v fun xs'=>k (a::xs')
def Y7 (A:List AV) (d:Option Tmp) (v:AV) (k:List AV→Prop):Prop:=match d with | some i=>A7N A i v k | none=>k A
theorem X5:∀ (A:List AV) (i:Nat) (k:AV→Prop),A3A A i k=k (A.getD i .junk)
 | [],_,k=>by simp [A3A]
 | a::xs,0,k=>by simp [A3A]
 | a::xs,n+1,k=>by rw [A3A,X5 xs n k];simp
theorem A3a:∀ (A:List AV) (i:Nat) (v:AV) (k:List AV→Prop),A7N A i v k=k (A.set i v)
 | [],_,v,k=>by simp [A7N]
 | a::xs,0,v,k=>by simp [A7N]
 | a::xs,n+1,v,k=>by rw [A7N,A3a xs n v];simp
theorem N6 (A:List AV) (d:Option Tmp) (v:AV) (k:List AV→Prop):Y7 A d v k=k (D9 A d v):=by
 cases d with
 | none=>rfl
 | some i=>exact A3a A i v k
def B8i (v:Value) (k:AV→Prop):Prop :=
 match v with
 | .bool b=>k (.bool b)
 | .int kk n=>k (.int kk n)
 | .string s=>k (.str s)
 | .pointer a=>(match a with | none=>k .nilp | some _=>k .junk)
 | .slice a l c=>(match a with | none=>(match l,c with | 0,0=>k .emp | _,_=>k .junk) | some _=>k .junk)
 | .nilFunc=>k .nilf
 | .nilIface=>k .nili
 | v=>k (F9 v)
theorem B5u (v:Value) (k:AV→Prop):B8i v k=k (F9 v):=by
 cases v with
 | pointer a=>cases a<;>rfl
 | slice a l c=>cases a with
  | none=>cases l<;>cases c<;>rfl
  | some a=>rfl
 | _=>rfl
def evK (A:List AV) (x:Operand) (k:AV→Prop):Prop :=
 match x with
 | .tmp t=>A3A A t k
 | .const v=>B8i v k
 | .global _=>k .junk
 | .func f=>k (.fn (.func f) [] [])
theorem A0t (A:List AV) (x:Operand) (k:AV→Prop):evK A x k=k (ev A x):=by
 cases x with
 | tmp t=>exact X5 A t k
 | const v=>exact B5u v k
 | _=>rfl
def B1F (A:List AV):List Operand→(List AV→Prop)→Prop
 | [],k=>k []
 | x::xs,k=>evK A x fun v=>B1F A xs fun vs=>k (v::vs)
theorem B0G (A:List AV):∀ (xs:List Operand) (k:List AV→Prop),B1F A xs k=k (xs.map (ev A))
 | [],k=>rfl
 | x::xs,k=>by simp only [B1F,A0t,B0G A xs,List.map_cons]
def B1E (A:List AV):List (Nat×Operand)→(List (Nat×AV)→Prop)→Prop
 | [],k=>k []
 | p::ps,k=>evK A p.2 fun v=>B1E A ps fun vs=>k ((p.1,v)::vs)
theorem A4x (A:List AV):∀ (ps:List (Nat×Operand)) (k:List (Nat×AV)→Prop),B1E A ps k=k (ps.map fun p=>(p.1,ev A p.2))
 | [],k=>rfl
 | p::ps,k=>by simp only [B1E,A0t,A4x A ps,List.map_cons]
def B5A (A:List AV) (x:Option Operand) (k:Option AV→Prop):Prop:=match x with | none=>k none | some y=>evK A y fun v=>k (some v)
theorem B5B (A:List AV) (x:Option Operand) (k:Option AV→Prop):B5A A x k=k (x.map (ev A)):=by
 cases x with
 | none=>rfl
 | some y=>exact A0t A y _
def A0N (b:Bool) (x y:Prop):Prop:=match b with | true=>x | false=>y
theorem N3 (b:Bool) (x y:Prop):A0N b x y↔(b=true→x)∧(b=false→y):=by cases b<;>simp [A0N]
theorem B5 {b:Bool} {x y:Prop} (h1:b=true→x) (h2:b=false→y):A0N b x y:=by cases b;exact h2 rfl;exact h1 rfl
structure Q7 (P:Program) (f:FuncId) (args:List AV) (st:St) (k:KK):Prop where
 out:V5 P f args st k
def B2Y:List AV→List AV→(List AV→Prop)→Prop
 | [],b,k=>k b
 | v::a,b,k=>B2Y a b fun l=>k (v::l)
theorem A0n:∀ (a b:List AV) (k:List AV→Prop),B2Y a b k=k (a++b)
 | [],b,k=>rfl
 | v::a,b,k=>by rw [B2Y,A0n a b];rfl
def B3A:List AV→Nat→(Nat→Prop)→Prop
 | [],n,k=>k n
 | _::l,n,k=>B3A l (n+1) k
theorem B0P:∀ (l:List AV) (n:Nat) (k:Nat→Prop),B3A l n k=k (n+l.length)
 | [],n,k=>by simp [B3A]
 | a::l,n,k=>by rw [B3A,B0P l];simp [Nat.add_assoc,Nat.add_comm 1]
def A8L:List AV→List AV→(List AV→Prop)→Prop
 | cs,[],k=>k cs
 | _::cs,v::new,k=>A8L cs new fun r=>k (v::r)
 | [],_::_,k=>k []
def A3e:List AV→Nat→List AV→(List AV→Prop)→Prop
 | cs,0,new,k=>A8L cs new k
 | a::cs,n+1,new,k=>A3e cs n new fun r=>k (a::r)
 | [],_+1,_,k=>k []
theorem A8M:∀ (cs new:List AV) (k:List AV→Prop),new.length≤cs.length→A8L cs new k=k (new++cs.drop new.length)
 | cs,[],k,_=>by simp [A8L]
 | c::cs,v::new,k,h=>by rw [A8L,A8M cs new _ (by simpa using h)];simp
 | [],v::new,k,h=>by simp at h
theorem A5L:∀ (cs:List AV) (n:Nat) (new:List AV) (k:List AV→Prop),n+new.length≤cs.length→A3e cs n new k=k (cs.take n++new++cs.drop (n+new.length))
 | cs,0,new,k,h=>by rw [A3e,A8M cs new k (by omega)];simp
 | a::cs,n+1,new,k,h=>by
  rw [A3e,A5L cs n new _ (by simp at h;omega)]
  simp [show n+1+new.length=(n+new.length)+1 from by omega]
 | [],n+1,new,k,h=>by simp at h
def A6Z (place:Nat→Option (Nat×Nat)):List (Nat×AV)→List AV→(List AV→Prop)→Prop
 | [],cells,k=>k cells
 | (i,v)::rest,cells,k=>match place i with
  | none=>False
  | some (off,size)=>match Nat.beq (cellsOf v).length size&&Nat.ble (off+size) cells.length&&(cellsOf v).all AV.one&&Nat.blt 0 size with
   | true=>A3e cells off (cellsOf v) fun cells'=>A6Z place rest cells' k
   | false=>False
theorem A3g {place:Nat→Option (Nat×Nat)}:∀ (ps:List (Nat×AV)) (cells:List AV) (k:List AV→Prop),A6Z place ps cells k→∃ out,A0J place cells ps=some out∧k out
 | [],cells,k,h=>⟨cells,rfl,h⟩
 | (i,v)::ps,cells,k,h=>by
  unfold A6Z at h
  unfold A0J
  split at h
  ·exact h.elim
  ·rename_i off size hp
   rw [hp]
   simp only
   split at h
   ·rename_i hb
    simp only [Bool.and_eq_true,Nat.beq_eq,Nat.ble_eq,Nat.blt_eq] at hb
    obtain ⟨⟨⟨h1,h2⟩,h3⟩,h4⟩:=hb
    rw [A5L _ _ _ _ (by omega)] at h
    rw [if_neg (by simp only [not_or,Decidable.not_not,Bool.not_eq_false];exact ⟨h1,by omega,h3,by omega⟩)]
    rw [h1] at h
    exact A3g ps _ k h
   ·exact h.elim
def B0r (T:C9) (t:TypeId) (ps:List (Nat×AV)) (k:AV→Prop):Prop :=
 match T t with
 | none=>False
 | some r=>match r.desc with
  | .struct fs=>match places T fs.toList with
   | none=>False
   | some pl=>A6Z (fun i=>pl[i]?) ps (cellsOf (F9 r.zero)) fun out=>k (.agg out)
  | .array n el=>match T el with
   | none=>False
   | some q=>A6Z (fun i=>some (i * q.size,q.size)) ps (cellsOf (F9 r.zero)) fun out=>k (.agg out)
  | _=>False
theorem B2D {T:C9} {t:TypeId} {ps:List (Nat×AV)} {k:AV→Prop} (h:B0r T t ps k):A2h T t ps k:=by
 unfold B0r at h
 unfold A2h
 split at h
 ·exact h.elim
 ·rename_i r hr
  rw [hr]
  simp only
  split at h
  ·rename_i fs hd
   rw [hd]
   simp only
   split at h
   ·exact h.elim
   ·rename_i pl hp
    rw [hp]
    simp only
    obtain ⟨out,h1,h2⟩:=A3g _ _ _ h
    rw [h1];exact h2
  ·rename_i n el hd
   rw [hd]
   simp only
   split at h
   ·exact h.elim
   ·rename_i q hq
    rw [hq]
    simp only
    obtain ⟨out,h1,h2⟩:=A3g _ _ _ h
    rw [h1];exact h2
  ·exact h.elim
def A1m:Nat→List AV→(List AV→List AV→Prop)→Prop
 | 0,l,k=>k [] l
 | n+1,v::l,k=>A1m n l fun a b=>k (v::a) b
 | _+1,[],k=>k [] []
theorem A3L:∀ (n:Nat) (l:List AV) (k:List AV→List AV→Prop),A1m n l k=k (l.take n) (l.drop n)
 | 0,l,k=>by simp [A1m]
 | n+1,v::l,k=>by rw [A1m,A3L n l];simp
 | n+1,[],k=>by simp [A1m]
def A5e (agg:Bool) (e:Nat):Nat→List AV→(List AV→Prop)→Prop
 | 0,_,k=>k []
 | n+1,out,k=>match agg with
  | true=>A1m e out fun a b=>A5e agg e n b fun r=>k (.agg a::r)
  | false=>match out with
   | v::b=>A5e agg e n b fun r=>k (v::r)
   | []=>False
theorem A8y (agg:Bool) (e n:Nat) (out:List AV) (he:agg=false→e=1):P0 agg e (n+1) out=(if agg then .agg (out.take e) else out.getD 0 .junk)::P0 agg e n (out.drop e):=by
 unfold P0
 rw [List.range_succ_eq_map,List.map_cons,List.map_map]
 congr 1
 ·cases agg<;>simp
 ·refine List.map_congr_left fun i _=>?_
  cases agg with
  | true =>
   simp only [Function.comp,if_true]
   rw [List.drop_drop,show (i+1) * e=e+i * e from by rw [Nat.add_mul];omega]
  | false =>
   have:=he rfl
   subst this
   simp
theorem A3B {agg:Bool} {e:Nat} (he:agg=false→e=1):∀ (n:Nat) (out:List AV) (k:List AV→Prop),A5e agg e n out k→k (P0 agg e n out)
 | 0,out,k,h=>h
 | n+1,out,k,h=>by
  unfold A5e at h
  rw [A8y agg e n out he]
  cases agg with
  | true =>
   simp only [A3L] at h
   exact A3B he n _ _ h
  | false =>
   simp only at h
   have:=he rfl
   subst this
   split at h
   ·rename_i v b;exact A3B he n _ _ h
   ·exact h.elim
def B6f (fz:Bool) (ty:TypeId) (v:AV) (st:St) (k:KK):Prop :=
 match Nat.blt 0 (cellsOf v).length&&(cellsOf v).all AV.one with
 | true=>(match fz with
  | true=>k (.fptr v 0) st
  | false=>B3A (cellsOf v) 0 fun n=>∀ b,st b=none→k (.optr n b 0 0) (upd st b ⟨ty,n,1,fun _=>v⟩))
 | false=>False
theorem B1n {fz:Bool} {ty:TypeId} {v:AV} {st:St} {k:KK} (h:B6f fz ty v st k):A9s ty v st k:=by
 unfold B6f at h
 split at h
 ·rename_i hb
  simp only [Bool.and_eq_true,Nat.blt_eq] at hb
  cases fz with
  | true=>exact ⟨hb.1,hb.2,.inl h⟩
  | false =>
   simp only [B0P,Nat.zero_add] at h
   exact ⟨hb.1,hb.2,.inr h⟩
 ·exact h.elim
def B7N (fz:Bool) (T:C9) (t:TypeId) (len:Nat) (ps:List (Nat×AV)) (st:St) (k:KK):Prop :=
 match T t with
 | none=>False
 | some r=>match r.desc with
  | .slice el=>match T el with
   | none=>False
   | some q=>match Nat.blt 0 (len * q.size)&&Nat.ble (len * q.size) 16777216&&Nat.beq q.zero.cells.size q.size&&(q.agg||Nat.beq q.size 1) with
    | false=>False
    | true=>A6Z (fun i=>some (i * q.size,q.size)) ps ((List.range (len * q.size)).map fun i=>(cellsOf (F9 q.zero)).getD (i % q.size) .junk) fun out=>match out.all AV.one with
    | false=>False
    | true=>A5e q.agg q.size len out fun els=>match fz with
     | false=>k (.arr q.size len (fun i=>els.getD i .junk)) st
     | true=>∀ b,st b=none→k (.own q.size b 0 len) (upd st b ⟨el,q.size,len,fun i=>els.getD i .junk⟩)
  | _=>False
theorem B6i {fz:Bool} {T:C9} {t:TypeId} {len:Nat} {ps:List (Nat×AV)} {st:St} {k:KK} (h:B7N fz T t len ps st k):P6 T t len ps st k:=by
 unfold B7N at h
 unfold P6
 split at h
 ·exact h.elim
 ·rename_i r hr
  rw [hr]
  simp only
  split at h
  ·rename_i el hd
   rw [hd]
   simp only
   split at h
   ·exact h.elim
   ·rename_i q hq
    rw [hq]
    split at h
    ·exact h.elim
    rename_i hb
    simp only [Bool.and_eq_true,Nat.blt_eq,Nat.ble_eq,Nat.beq_eq,Bool.or_eq_true] at hb
    obtain ⟨⟨⟨h1,h2⟩,h3⟩,h4'⟩:=hb
    have h4:q.agg=false→q.size=1:=fun e=>h4'.resolve_left (by simp [e])
    refine ⟨h1,h2,h3,h4,?_⟩
    obtain ⟨out,ho,h⟩:=A3g _ _ _ h
    rw [ho]
    split at h
    ·exact h.elim
    rename_i hone
    have h:=A3B h4 _ _ _ h
    refine ⟨hone,?_⟩
    cases fz with
    | false=>exact .inl h
    | true=>exact .inr h
  ·exact h.elim
def A5W (r:B4) (cs:List AV) (o:Nat) (k:AV→Prop):Prop :=
 match r.agg with
 | true=>(match Nat.ble (o+r.size) cs.length with
  | true=>A1m o cs fun _ b=>A1m r.size b fun c _=>k (.agg c)
  | false=>False)
 | false=>A3A cs o fun y=>match y with | .junk=>False | y=>k y
theorem A5X {r:B4} {cs:List AV} {o:Nat} {k:AV→Prop} (h:A5W r cs o k):pick r cs o k:=by
 unfold A5W at h
 unfold pick
 split at h
 ·rename_i e
  rw [e]
  split at h
  ·rename_i hb
   simp only [A3L] at h
   exact ⟨by simpa using hb,h⟩
  ·exact h.elim
 ·rename_i e
  rw [e]
  rw [X5] at h
  simp only
  rw [List.getD_eq_getElem?_getD] at h
  cases hy:cs[o]? with
  | none=>rw [hy] at h;exact h.elim
  | some y=>rw [hy] at h;simp only [Option.getD_some] at h;split at h;exact h.elim;exact h
structure B6e (T:C9) (t:TypeId) (e b i o:Nat) (st:St) (k:KK):Prop where
 out:V6 T t (.optr e b i o) st k
def A9n (T:C9) (t:TypeId) (v:AV) (st:St) (k:KK):Prop :=
 match v with
 | .fptr v o=>(match T t with | some r=>A5W r (cellsOf v) o (fun y=>k y st) | none=>False)
 | .optr e b i o=>B6e T t e b i o st k
 | _=>False
theorem A5U {T:C9} {t:TypeId} {v:AV} {st:St} {k:KK} (h:A9n T t v st k):V6 T t v st k:=by
 unfold A9n at h
 split at h
 ·unfold V6
  split at h
  ·rename_i hr;rw [hr];exact A5X h
  ·exact h.elim
 ·exact h.out
 ·exact h.elim
structure B4z (T:C9) (t:TypeId) (e b i o:Nat) (v:AV) (st:St) (k:KK):Prop where
 out:(match T t with | some r=>0<r.size | none=>False)∧A2k T t (.optr e b i o) v st k
def B4A (T:C9) (t:TypeId) (p v:AV) (st:St) (k:KK):Prop:=match p with | .optr e b i o=>B4z T t e b i o v st k | _=>False
structure A3N (T:C9) (t:TypeId) (s x:AV) (st:St) (k:KK):Prop where
 out:X0 T t s x st k
structure xMk (T:C9) (t:TypeId) (l c:AV) (st:St) (k:KK):Prop where
 out:A3S T t l c st k
def A5T (T:C9) (b:Builtin) (args:List AV) (ts:List TypeId) (st:St) (k:KK):Prop :=
 match b with
 | .append=>match args,ts with
  | [s,x],[t,u]=>(match Nat.beq t u with | true=>A3N T t s x st k | false=>False)
  | _,_=>False
 | b=>S6 T b args ts st k
theorem A9l {T:C9} {b:Builtin} {args:List AV} {ts:List TypeId} {st:St} {k:KK} (h:A5T T b args ts st k):S6 T b args ts st k:=by
 unfold A5T at h
 split at h
 ·unfold S6
  split at h
  ·split at h
   ·rename_i e;exact ⟨Nat.eq_of_beq_eq_true e,h.out⟩
   ·exact h.elim
  ·exact h.elim
 ·exact h
def A8e (P:Program) (T:C9) (M:E5) (r:AV) (name:String) (args:List AV) (st:St) (k:KK):Prop :=
 match r with
 | .iface t v=>match M t name with
  | some (f,none)=>Q7 P f (v::args) st k
  | some (f,some el)=>A9n T el v st (fun u st'=>Q7 P f (u::args) st' k)
  | none=>False
 | _=>False
theorem B0u {P:Program} {T:C9} {M:E5} {r:AV} {name:String} {args:List AV} {st:St} {k:KK} (h:A8e P T M r name args st k):A1z P T M r name args st k:=by
 unfold A8e at h
 unfold A1z
 split at h
 ·rename_i t v
  simp only
  split at h
  ·rename_i f hf;rw [hf];exact h.out
  ·rename_i f el hf;rw [hf];exact A0l (k:=fun u st'=>Q7 P f (u::args) st' k) (fun u hu=>hu.out) (A5U h)
  ·exact h.elim
 ·exact h.elim
def B7K (T:C9) (op:BinOp) (t:TypeId) (x y:AV) (k:AV→Prop):Prop :=
 match x,y,op with
 | .int kk a,.int _ b,.shl=>A0N (decide (b<0)) False (k (.int kk (kk.wrap (a * 2 ^ (min b.toNat kk.bits)))))
 | .int kk a,.int _ b,.shr=>A0N (decide (b<0)) False (k (.int kk (a.fdiv (2 ^ (min b.toNat kk.bits)))))
 | .int kk a,.int k' b,.quo=>match decide (kk=k') with | true=>A0N (decide (b=0)) False (k (.int kk (kk.wrap (a.tdiv b)))) | false=>False
 | .int kk a,.int k' b,.rem=>match decide (kk=k') with | true=>A0N (decide (b=0)) False (k (.int kk (a.tmod b))) | false=>False
 | x,y,op=>match A7c T op t x y with | some z=>k z | none=>False
theorem B6c {T:C9} {op:BinOp} {t:TypeId} {x y:AV} {k:AV→Prop} (h:B7K T op t x y k):match A7c T op t x y with | some z=>k z | none=>False:=by
 unfold B7K at h
 split at h
 ·obtain ⟨h1,h2⟩:=(N3 _ _ _).1 h
  rename_i kk a k' b
  by_cases hb:b<0
  ·exact (h1 (decide_eq_true hb)).elim
  ·simp only [A7c,A3o,if_neg hb];exact h2 (decide_eq_false hb)
 ·obtain ⟨h1,h2⟩:=(N3 _ _ _).1 h
  rename_i kk a k' b
  by_cases hb:b<0
  ·exact (h1 (decide_eq_true hb)).elim
  ·simp only [A7c,A3o,if_neg hb];exact h2 (decide_eq_false hb)
 ·rename_i kk a k' b
  by_cases hk:kk=k'
  ·rw [decide_eq_true hk] at h
   obtain ⟨h1,h2⟩:=(N3 _ _ _).1 h
   by_cases hb:b=0
   ·exact (h1 (decide_eq_true hb)).elim
   ·simp only [A7c,B4S,if_pos hk,if_neg hb];exact h2 (decide_eq_false hb)
  ·rw [decide_eq_false hk] at h;exact h.elim
 ·rename_i kk a k' b
  by_cases hk:kk=k'
  ·rw [decide_eq_true hk] at h
   obtain ⟨h1,h2⟩:=(N3 _ _ _).1 h
   by_cases hb:b=0
   ·exact (h1 (decide_eq_true hb)).elim
   ·simp only [A7c,B4S,if_pos hk,if_neg hb];exact h2 (decide_eq_false hb)
  ·rw [decide_eq_false hk] at h;exact h.elim
 ·exact h
def B4w (T:C9) (op:BinOp) (t:TypeId) (y:Operand) (vx vy:AV) (k:AV→Prop):Prop :=
 match B4T T op t y vx with
 | some z=>k z
 | none=>B7K T op t vx vy k
theorem B4x {T:C9} {op:BinOp} {t:TypeId} {y:Operand} {vx vy:AV} {k:AV→Prop} (h:B4w T op t y vx vy k):match A8h T op t y vx vy with | some z=>k z | none=>False:=by
 unfold B4w at h
 unfold A8h
 split at h
 ·rename_i z hz;rw [hz];exact h
 ·rename_i hz;rw [hz];exact B6c h
structure B7M (s:ByteArray) (j:Int) (k:AV→Prop):Prop where
 out:∃ h:0≤j∧j.toNat<s.size,k (.int .u8 ((s[j.toNat]'h.2).toNat:Int))
def B0t (T:C9) (t:TypeId) (v i:AV) (k:AV→Prop):Prop :=
 match T t with
 | none=>False
 | some r=>match r.desc,v,i with
  | .string,.str s,.int _ j=>B7M s j k
  | .array n el,.agg cs,.int _ j=>match T el with
   | none=>False
   | some q=>(q.agg=false∧j.toNat * q.size<cs.length∧0≤j∧j<n)∧A3A cs (j.toNat * q.size) k
  | _,_,_=>False
theorem B2F {T:C9} {t:TypeId} {v i:AV} {k:AV→Prop} (h:B0t T t v i k):A2j T t v i k:=by
 unfold B0t at h
 unfold A2j
 split at h
 ·exact h.elim
 rename_i r hr
 rw [hr]
 simp only
 split at h
 ·rename_i s kk j hd
  rw [hd]
  exact h.out
 ·rename_i n el cs kk j hd
  rw [hd]
  split at h
  ·exact h.elim
  ·rename_i q hq
   rw [X5] at h
   simp only [hq]
   exact h
 ·exact h.elim
def B5y (n:Nat) (k:Nat→Prop):Prop :=
 match n with
 | 0=>k 0 | 1=>k 1 | 2=>k 2 | 3=>k 3 | 4=>k 4 | 5=>k 5 | 6=>k 6 | 7=>k 7 | 8=>k 8 | 9=>k 9 | 10=>k 10 | 11=>k 11 | 12=>k 12 | 13=>k 13 | 14=>k 14 | 15=>k 15 | 16=>k 16 | 17=>k 17 | 18=>k 18 | 19=>k 19 | 20=>k 20 | n=>k n
theorem B0U (n:Nat) (k:Nat→Prop):B5y n k=k n:=by unfold B5y;split<;>rfl
def A2A (T:C9) (s:TypeId) (p:AV) (f:Nat) (k:AV→Prop):Prop :=
 match T s with
 | none=>False
 | some r=>match r.desc with
  | .struct fs=>match fs[f]? with
   | none=>False
   | some fl=>match T fl.type with
    | none=>False
    | some q=>match Nat.blt 0 q.size with
     | true=>(match p with
      | .fptr v o=>B5y (o+fl.offset) fun o'=>k (.fptr v o')
      | .optr e b i o=>B5y (o+fl.offset) fun o'=>k (.optr e b i o')
      | _=>False)
     | false=>False
  | _=>False
theorem A6o {T:C9} {s:TypeId} {p:AV} {f:Nat} {k:AV→Prop} (h:A2A T s p f k):O8 T s p f k:=by
 unfold A2A at h
 unfold O8
 split at h
 ·exact h.elim
 rename_i r hr
 rw [hr]
 simp only
 split at h
 case h_2=>exact h.elim
 rename_i fs hd
 rw [hd]
 simp only
 split at h
 ·exact h.elim
 rename_i fl hf
 rw [hf]
 simp only
 split at h
 ·exact h.elim
 rename_i q hq
 rw [hq]
 simp only
 split at h
 ·rename_i hb
  refine ⟨by simpa using hb,?_⟩
  split at h
  ·rw [B0U] at h;exact h
  ·rw [B0U] at h;exact h
  ·exact h.elim
 ·exact h.elim
def B0s (T:C9) (s:TypeId) (v:AV) (f:Nat) (k:AV→Prop):Prop :=
 match T s with
 | none=>False
 | some r=>match r.desc with
  | .struct fs=>match fs[f]? with
   | none=>False
   | some fl=>match T fl.type with
    | none=>False
    | some q=>match v with
     | .agg cs=>A5W q cs fl.offset k
     | _=>False
  | _=>False
theorem B2E {T:C9} {s:TypeId} {p:AV} {f:Nat} {k:AV→Prop} (h:B0s T s p f k):A2i T s p f k:=by
 unfold B0s at h
 unfold A2i
 split at h
 ·exact h.elim
 rename_i r hr
 rw [hr]
 simp only
 split at h
 case h_2=>exact h.elim
 rename_i fs hd
 rw [hd]
 simp only
 split at h
 ·exact h.elim
 rename_i fl hf
 rw [hf]
 simp only
 split at h
 ·exact h.elim
 rename_i q hq
 rw [hq]
 simp only
 split at h
 ·exact A5X h
 ·exact h.elim
def xOp (P:Program) (T:C9) (M:E5) (fz:Bool) (op:Op) (A:List AV) (st:St) (k:KK):Prop :=
 match op with
 | .move x=>evK A x fun v=>k v st
 | .assign x=>evK A x fun v=>k v st
 | .pick c x y=>evK A c fun v=>match v with | .bool b=>A0N b (evK A x fun u=>k u st) (evK A y fun u=>k u st) | _=>False
 | .binOp op t x y _=>evK A x fun v=>evK A y fun u=>B4w T op t y v u (fun z=>k z st)
 | .unOp op _ x=>evK A x fun v=>match aUn op v with | some z=>k z st | none=>False
 | .load t x=>evK A x fun v=>A9n T t v st k
 | .store t x y=>evK A x fun v=>evK A y fun u=>B4A T t v u st k
 | .alloc t=>match T t with | some r=>B6f fz t (F9 r.zero) st k | none=>False
 | .box t x=>evK A x fun v=>B6f fz t v st k
 | .build t ps=>B1E A ps.toList fun vs=>B0r T t vs (fun v=>k v st)
 | .buildSlice t n ps=>match n with
  | 0=>B1E A ps.toList fun vs=>A8k T t vs st k
  | m+1=>B1E A ps.toList fun vs=>B7N fz T t (m+1) vs st k
 | .nilCheck x=>evK A x fun v=>match A1A v with | true=>k v st | false=>False
 | .convert s d x=>evK A x fun v=>match A2H T s d v with | some z=>k z st | none=>False
 | .makeInterface t x=>evK A x fun v=>match A7r T t with | true=>k (.iface t v) st | false=>False
 | .makeFunc fn fs cs=>B1F A fs.toList fun us=>B1F A cs.toList fun vs=>k (.fn fn us vs) st
 | .makeSlice t l c=>evK A l fun v=>evK A c fun u=>xMk T t v u st k
 | .slice t x lo hi mx=>evK A x fun v=>B5A A lo fun l=>B5A A hi fun h=>B5A A mx fun m=>A3p T t v l h m (fun v=>k v st)
 | .fieldAddr s x f=>evK A x fun v=>A2A T s v f (fun v=>k v st)
 | .field s x f=>evK A x fun v=>B0s T s v f (fun v=>k v st)
 | .indexAddr t x i=>evK A x fun v=>evK A i fun u=>R0 T t v u (fun v=>k v st)
 | .index t x i=>evK A x fun v=>evK A i fun u=>B0t T t v u (fun v=>k v st)
 | .typeAssert x _ t ok=>evK A x fun v=>match A4v T v t ok with | some z=>k z st | none=>False
 | .extract x i=>evK A x fun v=>Z1 v i (fun v=>k v st)
 | .call c=>B1F A c.args.toList fun args=>match c.callee with
  | .builtin b=>A5T T b args c.argTypes.toList st k
  | .invoke r name=>evK A r fun v=>A8e P T M v name args st k
  | .value f=>evK A f fun v=>match v with
   | .fn g fs cs=>(match g with | .func n=>B2Y fs args fun l=>B2Y l cs fun l=>Q7 P n l st k | _=>False)
   | _=>False
 | _=>False
theorem A1u {P:Program} {T:C9} {M:E5} {fz:Bool} {o:Oper} {A:List AV} {st:St} {k:KK} (h:xOp P T M fz o.op A st k):Y9 P T M o A st k:=by
 obtain ⟨dst,op,type,pos,after,guard⟩:=o
 unfold Y9
 cases op<;>simp only [xOp,A0t,B0G,A4x,B5B,A0n] at h ⊢<;>try exact h
 case alloc t =>
  split at h
  ·rename_i r hr;rw [hr];exact B1n h
  ·exact h.elim
 case box t x=>exact B1n h
 case fieldAddr t x f=>exact A6o h
 case field t x f=>exact B2E h
 case binOp op t x y _=>exact B4x h
 case index t x f=>exact B2F h
 case load t x=>exact A5U h
 case store t x y =>
  unfold B4A at h
  split at h
  ·rename_i hv;rw [hv];exact h.out
  ·exact h.elim
 case makeSlice t l c=>exact h.out
 case build t ps=>exact B2D h
 case buildSlice t n ps =>
  cases n with
  | zero=>simp only [A4x] at h;exact h
  | succ m=>simp only [A4x] at h;exact B6i h
 case pick c x y =>
  split at h
  ·rename_i b hb
   simp only [hb]
   exact (N3 _ _ _).1 h
  ·exact h.elim
 case nilCheck x =>
  split at h
  ·rename_i hb;exact ⟨hb,h⟩
  ·exact h.elim
 case makeInterface t x =>
  split at h
  ·rename_i hb;exact ⟨hb,h⟩
  ·exact h.elim
 case call c =>
  obtain ⟨callee,args,ts⟩:=c
  cases callee with
  | builtin b=>exact A9l h
  | invoke r name=>simp only [A0t] at h;exact B0u h
  | value f =>
   simp only [A0t,A0n] at h
   simp only [A0m]
   split at h
   ·rename_i g fs cs hf
    rw [hf]
    simp only
    split at h
    ·exact h.out
    ·exact h.elim
   ·exact h.elim
def A4k (ops:List Oper) (o:Oper) (A:List AV) (x y:Prop):Prop :=
 match o.guard with
 | none=>x
 | some (g,want)=>match ops[g]? with
  | none=>y
  | some p=>match p.dst with
   | none=>y
   | some d=>A3A A d fun v=>match v with
    | .bool b=>(match want with | true=>A0N b x y | false=>A0N b y x)
    | .tuple _=>y
    | _=>False
theorem A3h {ops:List Oper} {o:Oper} {A:List AV} {x y:Prop} (h:A4k ops o A x y):∃ b,O3 ops o A=some b∧(b=true→x)∧(b=false→y):=by
 unfold A4k at h
 unfold O3
 split at h
 ·rename_i hg;exact ⟨true,by simp [hg],fun _=>h,fun e=>by cases e⟩
 ·rename_i g want hg
  simp only [hg]
  split at h
  ·rename_i hp;exact ⟨false,by simp [hp],(fun e=>by cases e),fun _=>h⟩
  ·rename_i p hp
   simp only [hp]
   split at h
   ·rename_i hd;exact ⟨false,by simp [hd],(fun e=>by cases e),fun _=>h⟩
   ·rename_i d hd
    simp only [hd]
    rw [X5] at h
    rw [List.getD_eq_getElem?_getD] at h
    cases hA:A[d]? with
    | none=>exact ⟨false,by simp,(fun e=>by cases e),fun _=>by rw [hA] at h;exact h.elim⟩
    | some v =>
     rw [hA] at h
     simp only [Option.getD_some] at h
     split at h
     ·rename_i b
      cases want with
      | true=>exact ⟨b,by simp,(N3 _ _ _).1 h⟩
      | false=>exact ⟨!b,by simp,fun e=>((N3 _ _ _).1 h).2 (by simpa using e),fun e=>((N3 _ _ _).1 h).1 (by simpa using e)⟩
     ·exact ⟨false,rfl,(fun e=>by cases e),fun _=>h⟩
     ·exact h.elim
def inF (frz:List Nat) (d:Option Tmp):Bool:=match d with | some p=>frz.contains p | none=>false
def A1g (frz:List Nat) (o1 o2:Oper):Option (Tmp×TypeId×TypeId×Operand) :=
 match o1.guard,o2.guard with
 | none,none=>match o1.op,o1.dst,o2.op with
  | .alloc t,some p,.store u (.tmp q) y=>(match Nat.beq p q&&frz.contains p with | true=>some (p,t,u,y) | false=>none)
  | _,_,_=>none
 | _,_=>none
theorem A9E {rd:Addr→Option Value} {sz:Nat→Nat} {v v':AV} {r:Nat} {c:Value} (he:cellsOf v=cellsOf v') (h:Rep rd sz (.fptr v r) c):Rep rd sz (.fptr v' r) c:=by
 cases h with
 | fptr v r a g hr hg=>exact .fptr v' r a g (fun j hj=>hr j (by rw [he];exact hj)) (fun j y hy=>hg j y (by rw [he];exact hy))
theorem B5i {A:List AV} {st:St} {p b:Nat} {d:Option Tmp} {x y:M6} {v:AV} {e:Nat} (hb:st b=none) (hn:0<y.n) (hv:cellsOf (y.f 0)=cellsOf v) (hp:p<A.length) (hd:d≠some p) :
  A2g (D9 (D9 A (some p) (.optr e b 0 0)) d (.tuple [])) (upd (upd st b x) b y) (D9 (D9 A (some p) (.fptr v 0)) d (.tuple [])) st:=by
 intro w a hA hS
 have hst:upd (upd st b x) b y b=some y:=by simp [upd]
 have hne:∀ c,c≠b→upd (upd st b x) b y c=st c:=fun c hc=>by simp [upd,hc]
 have he:M7 (upd (upd st b x) b y) w st w:=⟨rfl,rfl,rfl,Nat.le_refl _,fun c _ hs=>⟨rfl,by
  by_cases hc:c=b
  ·subst hc;exact hb
  ·rw [hne c hc] at hs;exact hs⟩,fun _=>Nat.le_refl _⟩
 obtain ⟨cs,hok⟩:=hS b y hst
 refine ⟨⟨by have:=hA.len;simp [D9] at this ⊢;cases d<;>simp_all,fun i u hu=>?_,hA.defers⟩,fun c z hz=>?_,he⟩
 ·by_cases hi:i=p
  ·subst hi
   have hpt:(D9 (D9 A (some i) (.optr e b 0 0)) d (.tuple []))[i]?=some (.optr e b 0 0):=by
    cases d with
    | none=>simp [D9,hp]
    | some q=>simp only [D9];rw [List.getElem?_set_ne (fun h=>hd (by rw [h]))];simp [hp]
   have hpt':(D9 (D9 A (some i) (.fptr v 0)) d (.tuple []))[i]?=some (.fptr v 0):=by
    cases d with
    | none=>simp [D9,hp]
    | some q=>simp only [D9];rw [List.getElem?_set_ne (fun h=>hd (by rw [h]))];simp [hp]
   rw [hpt'] at hu
   cases hu
   obtain ⟨c,hc1,hc2⟩:=hA.at_ i _ hpt
   refine ⟨c,hc1,?_⟩
   cases hc2
   have:=A9E hv (A3W (hok.evo he rfl) hb hn)
   simpa using this
  ·have hsame:(D9 (D9 A (some p) (.optr e b 0 0)) d (.tuple []))[i]?=(D9 (D9 A (some p) (.fptr v 0)) d (.tuple []))[i]?:=by
    cases d with
    | none=>simp only [D9];rw [List.getElem?_set_ne (fun h=>hi h.symm),List.getElem?_set_ne (fun h=>hi h.symm)]
    | some q =>
     simp only [D9,List.getElem?_set,List.length_set]
     rw [if_neg (show ¬ p=i from fun h=>hi h.symm),if_neg (show ¬ p=i from fun h=>hi h.symm)]
   rw [←hsame] at hu
   obtain ⟨c,hc1,hc2⟩:=hA.at_ i u hu
   exact ⟨c,hc1,he.rep hc2⟩
 ·have hc:c≠b:=fun h=>by rw [h,hb] at hz;cases hz
  obtain ⟨ds,hd'⟩:=hS c z (by rw [hne c hc];exact hz)
  exact ⟨ds,hd'.evo he rfl⟩
def A9O (d:Option Tmp) (p:Tmp):Bool:=match d with | some q=>!Nat.beq q p | none=>true
def B0W (y:Operand) (p:Tmp):Bool:=match y with | .tmp q=>!Nat.beq q p | _=>true
theorem B1T {d:Option Tmp} {p:Tmp} (h:A9O d p=true):d≠some p:=fun e=>by subst e;simp [A9O] at h
theorem A8I {y:Operand} {p:Tmp} (h:B0W y p=true):y≠.tmp p:=fun e=>by subst e;simp [B0W] at h
def A5V (T:C9) (p:Tmp) (t u:TypeId) (y:Operand) (d:Option Tmp) (A:List AV) (st:St) (k:KA):Prop :=
 match T t,T u with
 | some r,some q=>evK A y fun v=>match Nat.blt p A.length&&A9O d p&&Nat.blt 0 q.size&&Nat.beq (cellsOf (F9 r.zero)).length q.size&&(cellsOf (F9 r.zero)).all AV.one&&Nat.beq (cellsOf v).length q.size&&(cellsOf v).all AV.one&&B0W y p with
   | true=>A7N A p (.fptr v 0) fun A'=>Y7 A' d (.tuple []) fun A''=>k A'' st
   | false=>False
 | _,_=>False
theorem A7M {v:AV} {cs:List AV} (h:cs.length=(cellsOf v).length) (h1:cs.all AV.one=true) (h2:0<cs.length):cellsOf (H7 v 0 cs)=cs:=by
 rw [A1l (by omega) h1 h2]
 simp [h]
theorem A1v {P:Program} {T:C9} {M:E5} {frz:List Nat} {o1 o2:Oper} {p:Tmp} {t u:TypeId} {y:Operand} (hp:A1g frz o1 o2=some (p,t,u,y)) {A:List AV} {st:St} {k:KA} (h:A5V T p t u y o2.dst A st k) :
  o1.guard=none∧o2.guard=none∧Y9 P T M o1 A st fun v st'=>Y9 P T M o2 (D9 A o1.dst v) st' fun v' st''=>A2f k (D9 (D9 A o1.dst v) o2.dst v') st'':=by
 unfold A1g at hp
 split at hp
 case h_2=>cases hp
 rename_i hg1 hg2
 split at hp
 case h_2=>cases hp
 rename_i t' p' u' q' y' ho1 hd1 ho2
 split at hp
 case h_2=>cases hp
 rename_i hb
 cases hp
 simp only [Bool.and_eq_true] at hb
 obtain rfl:=Nat.eq_of_beq_eq_true hb.1
 refine ⟨hg1,hg2,?_⟩
 unfold A5V at h
 split at h
 case h_2=>exact h.elim
 rename_i r q hr hq
 rw [A0t] at h
 split at h
 case h_2=>exact h.elim
 rename_i hb
 simp only [Bool.and_eq_true,Nat.blt_eq,Nat.beq_eq] at hb
 obtain ⟨⟨⟨⟨⟨⟨⟨hlt,hd⟩,hq0⟩,hz1⟩,hz2⟩,hv1⟩,hv2⟩,hy⟩:=hb
 have hd:=B1T hd
 have hy:=A8I hy
 rw [A3a,N6] at h
 have hk:=h
 unfold Y9
 rw [ho1,ho2,hd1]
 simp only [hr,hq]
 refine ⟨by omega,hz2,.inr fun b hb=>⟨hq0,?_⟩⟩
 have hevp:ev (D9 A (some p) (.optr (cellsOf (F9 r.zero)).length b 0 0)) (.tmp p)=.optr (cellsOf (F9 r.zero)).length b 0 0:=by
  simp [ev,D9,hlt]
 have hevy:ev (D9 A (some p) (.optr (cellsOf (F9 r.zero)).length b 0 0)) y=ev A y:=A9D fun t ht hyt=>by
  cases ht;exact hy hyt
 unfold A2k
 simp only [hq,hevp,hevy]
 have hst:upd st b ⟨t,(cellsOf (F9 r.zero)).length,1,fun _=>F9 r.zero⟩ b=some ⟨t,(cellsOf (F9 r.zero)).length,1,fun _=>F9 r.zero⟩:=by simp [upd]
 rw [hst]
 refine ⟨rfl,Nat.one_pos,hv1,hv2,by simp only;omega,_,_,B5i hb Nat.one_pos ?_ hlt hd,hk⟩
 simp only [L4,if_true]
 exact A7M (by omega) hv2 (by omega)
def A3f (frz:List Nat) (o om o2:Oper):Option (Tmp×Operand×Tmp×TypeId×TypeId×Operand) :=
 match om.guard,om.op,om.dst,A1g frz o o2 with
 | none,.assign x,some m,some (p,t,u,y)=>(match !Nat.beq m p&&B0W x p with | true=>some (m,x,p,t,u,y) | false=>none)
 | _,_,_,_=>none
def A4L (T:C9) (m:Tmp) (x:Operand) (p:Tmp) (t u:TypeId) (y:Operand) (d:Option Tmp) (A:List AV) (st:St) (k:KA):Prop :=
 evK A x fun v=>A7N A m v fun A1=>A5V T p t u y d A1 st k
theorem A6b {P:Program} {T:C9} {M:E5} {o:Oper} {t:TypeId} (ho:o.op=.alloc t) {A B:List AV} {st:St} {k:KK} (h:Y9 P T M o A st k):Y9 P T M o B st k:=by
 unfold Y9 at *
 rw [ho] at h ⊢
 exact h
theorem A6q {P:Program} {T:C9} {M:E5} {frz:List Nat} {o1 om o2:Oper} {m p:Tmp} {x:Operand} {t u:TypeId} {y:Operand} (hp:A3f frz o1 om o2=some (m,x,p,t,u,y)) {A:List AV} {st:St} {k:KA} (h:A4L T m x p t u y o2.dst A st k) :
  o1.guard=none∧om.guard=none∧o2.guard=none∧Y9 P T M o1 A st fun v st'=>Y9 P T M om (D9 A o1.dst v) st' fun v1 st1=>Y9 P T M o2 (D9 (D9 A o1.dst v) om.dst v1) st1 fun v' st''=>A2f k (D9 (D9 (D9 A o1.dst v) om.dst v1) o2.dst v') st'':=by
 unfold A3f at hp
 split at hp
 case h_2=>cases hp
 rename_i x' m' p' t' u' y' hg hop hdst hpr
 split at hp
 case h_2=>cases hp
 rename_i hb
 cases hp
 simp only [Bool.and_eq_true,Bool.not_eq_true'] at hb
 have hmp:m≠p:=fun e=>by subst e;simp at hb
 have hxp:x≠.tmp p:=A8I hb.2
 unfold A4L at h
 rw [A0t,A3a] at h
 obtain ⟨g1,g2,h1⟩:=A1v (P:=P) (M:=M) hpr h
 have hal:∃ t0,o1.op=.alloc t0∧o1.dst=some p:=by
  unfold A1g at hpr
  split at hpr
  case h_2=>cases hpr
  split at hpr
  case h_2=>cases hpr
  rename_i t0 p0 u0 q0 y0 ho1 hd1 ho2
  split at hpr
  case h_2=>cases hpr
  cases hpr
  exact ⟨_,ho1,hd1⟩
 obtain ⟨t0,ho1,hd1⟩:=hal
 refine ⟨g1,hg,g2,I5 (fun v st' h2=>?_) (A6b (B:=A) ho1 h1)⟩
 have e1:ev (D9 A (some p) v) x=ev A x:=A9D fun t ht hx=>by cases ht;exact hxp hx
 have e2:D9 (D9 A (some p) v) (some m) (ev A x)=D9 (A.set m (ev A x)) (some p) v:=by
  have:=A1O A (x:=some p) (y:=some m) v (ev A x) (fun d hd e=>by cases hd;cases e;exact hmp rfl)
  exact this
 rw [hd1] at h2 ⊢
 rw [hdst]
 unfold Y9
 rw [hop]
 simp only [e1,e2]
 exact h2
def B2G (P:Program) (T:C9) (M:E5) (frz:List Nat) (ops:List Oper):List Oper→List AV→St→KA→Prop
 | [],A,st,k=>k A st
 | o::rest,A,st,k=>match (match rest with | [o2]=>A1g frz o o2 | _=>none) with
  | some (p,t,u,y)=>(match rest with | [o2]=>A5V T p t u y o2.dst A st k | _=>False)
  | none=>match (match rest with | [om,o2]=>A3f frz o om o2 | _=>none) with
  | some (m,x,p,t,u,y)=>(match rest with | [_,o2]=>A4L T m x p t u y o2.dst A st k | _=>False)
  | none=>A4k ops o A
   (xOp P T M (inF frz o.dst) o.op A st fun v st'=>Y7 A o.dst v fun A'=>B2G P T M frz ops rest A' st' k)
   (Y7 A o.dst (.tuple []) fun A'=>B2G P T M frz ops rest A' st k)
theorem Z2 {P:Program} {T:C9} {M:E5} {ops:List Oper} {o:Oper} {rest:List Oper} {A:List AV} {st:St} {k:KA} (hg:o.guard=none) (h:Y9 P T M o A st fun v st'=>A3n P T M ops rest (D9 A o.dst v) st' k):A3n P T M ops (o::rest) A st k:=by
 unfold A3n O3
 rw [hg]
 exact ⟨fun _=>h,fun e=>by cases e⟩
theorem A4K {P:Program} {T:C9} {M:E5} {frz:List Nat} {ops:List Oper}:∀ (l:List Oper) (A:List AV) (st:St) (k:KA),B2G P T M frz ops l A st k→A3n P T M ops l A st (A2f k)
 | [],A,st,k,h=>⟨A,st,A2g.refl A st,h⟩
 | o::rest,A,st,k,h=>by
  unfold B2G at h
  split at h
  ·rename_i p t u y hp
   split at hp
   ·rename_i o2
    obtain ⟨g1,g2,h1⟩:=A1v (P:=P) (M:=M) hp h
    exact Z2 g1 (I5 (fun v st' h2=>Z2 g2 h2) h1)
   ·cases hp
  ·split at h
   ·rename_i m x p t u y hp
    split at hp
    ·rename_i om o2
     obtain ⟨g1,g2,g3,h1⟩:=A6q (P:=P) (M:=M) hp h
     exact Z2 g1 (I5 (fun v st' h2=>Z2 g2 (I5 (fun v1 st1 h3=>Z2 g3 h3) h2)) h1)
    ·cases hp
   obtain ⟨b,hb,h1,h2⟩:=A3h h
   unfold A3n
   rw [hb]
   refine ⟨fun e=>I5 (fun v st' hk=>?_) (A1u (h1 e)),fun e=>?_⟩
   ·rw [N6] at hk;exact A4K rest _ _ _ hk
   ·have:=h2 e;rw [N6] at this;exact A4K rest _ _ _ this
def A8B (op:Op):Bool:=T7 op||(match op with | .load ..=>true | _=>false)
theorem A8N {r:B4} {cs:List AV} {i:Nat} {k:AV→Prop} (h:pick r cs i k):∃ v,(pick r cs i fun v'=>v'=v)∧k v:=by
 unfold pick at *
 split at h
 ·exact ⟨_,⟨h.1,rfl⟩,h.2⟩
 ·split at h
  ·exact ⟨_,rfl,h⟩
  ·exact h.elim
theorem B0D {P:Program} {T:C9} {M:E5} {o:Oper} (hd:A8B o.op=true) {A:List AV} {st:St} {k:KK} (h:Y9 P T M o A st k):∃ v,(Y9 P T M o A st fun v' s=>v'=v∧s=st)∧k v st:=by
 unfold Y9 at *
 split at h
 all_goals repeat' first
  | exact h.elim
  | exact ⟨_,⟨rfl,rfl⟩,h⟩
  | exact ⟨_,⟨h.1,rfl,rfl⟩,h.2⟩
  | exact ⟨_,⟨h.1,h.2.1,rfl,rfl⟩,h.2.2⟩
  | exact ⟨_,⟨h.1,h.2.1,h.2.2.1,rfl,rfl⟩,h.2.2.2⟩
  | exact ⟨_,⟨h.1,h.2.1,h.2.2.1,h.2.2.2.1,rfl,rfl⟩,h.2.2.2.2⟩
  | (obtain ⟨v,h1,h2⟩:=A8N h;exact ⟨v,A0d (fun v' e=>⟨e,rfl⟩) h1,h2⟩)
  | (obtain ⟨v,h1,h2⟩:=A8N h.2.2;exact ⟨v,⟨h.1,h.2.1,A0d (fun v' e=>⟨e,rfl⟩) h1⟩,h2⟩)
  | (obtain ⟨h0,h⟩:=h;split at h<;>first | exact h.elim | exact ⟨_,⟨h0,rfl,rfl⟩,h⟩)
  | (rename_i b hb;cases b;exact ⟨_,⟨(fun e=>by cases e),fun _=>⟨rfl,rfl⟩⟩,h.2 rfl⟩;exact ⟨_,⟨fun _=>⟨rfl,rfl⟩,fun e=>by cases e⟩,h.1 rfl⟩)
  | split at h
  | unfold V6 at h ⊢ | unfold A2h at h ⊢ | unfold A3p at h ⊢ | unfold O8 at h ⊢ | unfold A2i at h ⊢ | unfold R0 at h ⊢ | unfold A2j at h ⊢ | unfold Z1 at h ⊢ | unfold S6 at h ⊢
  | (exfalso;clear h;simp_all [A8B,T7];done)
def A6p (P:Program) (T:C9) (M:E5) (frz:List Nat) (ops:List Oper) (eff ext:List Nat):List Nat→List AV→St→KA→Prop
 | [],A,st,k=>k A st
 | i::ord,A,st,k=>match ops[i]? with
  | none=>False
  | some o=>match (match ord with | [j]=>(match ops[j]? with | some o2=>(match eff.contains i&&eff.contains j with | true=>A1g frz o o2 | false=>none) | none=>none) | _=>none) with
   | some (p,t,u,y)=>(match ord with | [j]=>(match ops[j]? with | some o2=>A5V T p t u y o2.dst A st k | none=>False) | _=>False)
   | none=>A4k ops o A
    (match eff.contains i with
     | true=>xOp P T M (inF frz o.dst) o.op A st fun v st'=>Y7 A o.dst v fun A'=>A6p P T M frz ops eff ext ord A' st' k
     | false=>match ext.contains i with
      | true=>∃ v,(∀ st',Ext st st'→xOp P T M (inF frz o.dst) o.op A st' fun v' st''=>v'=v∧st''=st')∧Y7 A o.dst v fun A'=>A6p P T M frz ops eff ext ord A' st k
      | false=>match A8B o.op with
       | true=>xOp P T M (inF frz o.dst) o.op A st fun v _=>Y7 A o.dst v fun A'=>A6p P T M frz ops eff ext ord A' st k
       | false=>∃ v,(xOp P T M (inF frz o.dst) o.op A st fun v' st''=>v'=v∧st''=st)∧Y7 A o.dst v fun A'=>A6p P T M frz ops eff ext ord A' st k)
    (Y7 A o.dst (.tuple []) fun A'=>A6p P T M frz ops eff ext ord A' st k)
theorem A1R {P:Program} {T:C9} {M:E5} {frz:List Nat} {ops:List Oper} {eff ext:List Nat}:∀ (ord:List Nat) (A:List AV) (st:St) (k:KA),A6p P T M frz ops eff ext ord A st k→A4Z P T M ops eff ext ord A st (A2f k)
 | [],A,st,k,h=>⟨A,st,A2g.refl A st,h⟩
 | i::ord,A,st,k,h=>by
  unfold A6p at h
  cases ho:ops[i]? with
  | none=>rw [ho] at h;exact h.elim
  | some o =>
   rw [ho] at h
   simp only at h
   split at h
   ·rename_i p t u y hp
    split at hp
    ·rename_i j
     split at hp
     ·rename_i o2 ho2
      split at hp
      ·rename_i hee
       simp only [Bool.and_eq_true] at hee
       simp only [ho2] at h
       obtain ⟨g1,g2,h1⟩:=A1v (P:=P) (M:=M) hp h
       unfold A4Z
       rw [ho]
       have w1:O3 ops o A=some true:=by unfold O3;rw [g1]
       simp only [w1]
       refine ⟨fun _=>?_,fun e=>by cases e⟩
       rw [hee.1]
       refine I5 (fun v st' h2=>?_) h1
       unfold A4Z
       rw [ho2]
       have w2:O3 ops o2 (D9 A o.dst v)=some true:=by unfold O3;rw [g2]
       simp only [w2]
       refine ⟨fun _=>?_,fun e=>by cases e⟩
       rw [hee.2]
       exact I5 (fun v' st'' h3=>h3) h2
      ·cases hp
     ·cases hp
    ·cases hp
   ·unfold A4Z
    rw [ho]
    simp only
    obtain ⟨b,hb,h1,h2⟩:=A3h h
    rw [hb]
    simp only
    refine ⟨fun e=>?_,fun e=>?_⟩
    ·have h1:=h1 e
     split at h1
     ·rename_i hc
      rw [hc]
      exact I5 (fun v st' hk=>by rw [N6] at hk;exact A1R ord _ _ _ hk) (A1u h1)
     ·rename_i hc
      rw [hc]
      simp only
      split at h1
      ·rename_i hx
       rw [hx]
       obtain ⟨v,hv,hk⟩:=h1
       rw [N6] at hk
       exact ⟨v,fun st' hs=>A1u (hv st' hs),A1R ord _ _ _ hk⟩
      ·rename_i hx
       rw [hx]
       simp only
       split at h1
       ·rename_i hdet
        obtain ⟨v,hv,hk⟩:=B0D hdet (A1u h1)
        rw [N6] at hk
        exact ⟨v,hv,A1R ord _ _ _ hk⟩
       ·obtain ⟨v,hv,hk⟩:=h1
        rw [N6] at hk
        exact ⟨v,A1u hv,A1R ord _ _ _ hk⟩
    ·have:=h2 e
     rw [N6] at this
     exact A1R ord _ _ _ this
def A9m (P:Program) (T:C9) (M:E5) (frz:List Nat) (ops:List Oper) (i:Nat) (K:KA) (A:List AV) (st:St):Prop :=
 match ops[i]? with
 | none=>False
 | some o=>A4k ops o A (xOp P T M (inF frz o.dst) o.op A st fun v st'=>Y7 A o.dst v fun A'=>K A' st') (Y7 A o.dst (.tuple []) fun A'=>K A' st)
def B6g (P:Program) (T:C9) (M:E5) (frz:List Nat) (ops:List Oper) (i:Nat) (K:KA) (A:List AV) (st:St):Prop :=
 match ops[i]? with
 | none=>False
 | some o=>A4k ops o A
  (match A8B o.op with
   | true=>xOp P T M (inF frz o.dst) o.op A st fun v _=>Y7 A o.dst v fun A'=>K A' st
   | false=>∃ v,(xOp P T M (inF frz o.dst) o.op A st fun v' st''=>v'=v∧st''=st)∧Y7 A o.dst v fun A'=>K A' st)
  (Y7 A o.dst (.tuple []) fun A'=>K A' st)
def A2b (P:Program) (T:C9) (M:E5) (frz:List Nat) (ops:List Oper):OT→List AV→St→KA→Prop
 | .done,A,st,k=>k A st
 | .gen i t,A,st,k=>A9m P T M frz ops i (fun A' st'=>A2b P T M frz ops t A' st' k) A st
 | .qui i t,A,st,k=>B6g P T M frz ops i (fun A' st'=>A2b P T M frz ops t A' st' k) A st
 | .two i j t u,A,st,k=>A9m P T M frz ops i (fun A' st'=>A2b P T M frz ops t A' st' k) A st∧A9m P T M frz ops j (fun A' st'=>A2b P T M frz ops u A' st' k) A st
theorem A8d {P:Program} {T:C9} {M:E5} {frz:List Nat} {ops:List Oper} {i:Nat} {K K':KA} {A:List AV} {st:St} (hK:∀ A st,K A st→K' A st) (h:A9m P T M frz ops i K A st):A9y P T M ops i K' A st:=by
 unfold A9m at h
 unfold A9y
 cases ho:ops[i]? with
 | none=>rw [ho] at h;exact h.elim
 | some o =>
  rw [ho] at h
  simp only at h ⊢
  obtain ⟨b,hb,h1,h2⟩:=A3h h
  rw [hb]
  refine ⟨fun e=>?_,fun e=>?_⟩
  ·exact I5 (fun v st' hk=>by rw [N6] at hk;exact hK _ _ hk) (A1u (h1 e))
  ·have:=h2 e
   rw [N6] at this;exact hK _ _ this
theorem B6h {P:Program} {T:C9} {M:E5} {frz:List Nat} {ops:List Oper} {i:Nat} {K K':KA} {A:List AV} {st:St} (hK:∀ A st,K A st→K' A st) (h:B6g P T M frz ops i K A st):B5a P T M ops i K' A st:=by
 unfold B6g at h
 unfold B5a
 cases ho:ops[i]? with
 | none=>rw [ho] at h;exact h.elim
 | some o =>
  rw [ho] at h
  simp only at h ⊢
  obtain ⟨b,hb,h1,h2⟩:=A3h h
  rw [hb]
  refine ⟨fun e=>?_,fun e=>?_⟩
  ·have h1:=h1 e
   split at h1
   ·rename_i hdet
    obtain ⟨v,hv,hk⟩:=B0D hdet (A1u h1)
    rw [N6] at hk
    exact ⟨v,hv,hK _ _ hk⟩
   ·obtain ⟨v,hv,hk⟩:=h1
    rw [N6] at hk
    exact ⟨v,A1u hv,hK _ _ hk⟩
  ·have:=h2 e
   rw [N6] at this;exact hK _ _ this
theorem A1w {P:Program} {T:C9} {M:E5} {frz:List Nat} {ops:List Oper}:∀ (t:OT) (A:List AV) (st:St) (k:KA),A2b P T M frz ops t A st k→A2P P T M ops t A st (A2f k)
 | .done,A,st,k,h=>⟨A,st,A2g.refl A st,h⟩
 | .gen i t,A,st,k,h=>A8d (fun A st h=>A1w t A st k h) h
 | .qui i t,A,st,k,h=>B6h (fun A st h=>A1w t A st k h) h
 | .two i j t u,A,st,k,h=>⟨A8d (fun A st h=>A1w t A st k h) h.1,A8d (fun A st h=>A1w u A st k h) h.2⟩
def xDr (P:Program) (T:C9) (M:E5) (frz:List Nat) (ops:List Oper) (A:List AV) (st:St) (k:KA):Prop :=
 ∃ eff ext ord:List Nat,match ord with
  | []=>∃ t:OT,(Region.noSelect ops.toArray&&okT ops.toArray eff t ops.length (Array.replicate ops.length false))=true∧A2b P T M frz ops t A st k
  | _::_=>(Region.noSelect ops.toArray&&A5q ops.toArray eff ext ord (Array.replicate ops.length false)&&(ord.length==ops.length))=true∧A6p P T M frz ops eff ext ord A st k
theorem B7L {P:Program} {T:C9} {M:E5} {frz:List Nat} {ops:List Oper} {A:List AV} {st:St} {k:KA} (h:xDr P T M frz ops A st k):Dr P T M ops A st (A2f k):=by
 obtain ⟨eff,ext,ord,h⟩:=h
 refine ⟨eff,ext,ord,?_⟩
 split at h
 ·obtain ⟨t,h1,h2⟩:=h
  exact ⟨t,h1,A1w t _ _ _ h2⟩
 ·exact ⟨h.1,A1R _ _ _ _ h.2⟩
def A5B:Nat→(List AV→Prop)→Prop
 | 0,k=>k []
 | n+1,k=>A5B n fun A=>k (.junk::A)
theorem A5C:∀ (n:Nat) (k:List AV→Prop),A5B n k=k (List.replicate n .junk)
 | 0,k=>rfl
 | n+1,k=>by rw [A5B,A5C n];rfl
def A3b:List Nat→List AV→List AV→(List AV→Prop)→Prop
 | i::is,v::vs,A,k=>A7N A i v fun A'=>A3b is vs A' k
 | _,_,A,k=>k A
theorem A5F:∀ (is:List Nat) (vs A:List AV) (k:List AV→Prop),A3b is vs A k=k ((is.zip vs).foldl (fun A p=>A.set p.1 p.2) A)
 | [],vs,A,k=>by simp [A3b]
 | i::is,[],A,k=>by simp [A3b]
 | i::is,v::vs,A,k=>by simp only [A3b,A3a,A5F is vs,List.zip_cons_cons,List.foldl_cons]
def X6 (A:List AV):List Nat→(List AV→Prop)→Prop
 | [],k=>k []
 | i::is,k=>A3A A i fun v=>X6 A is fun vs=>k (v::vs)
theorem S7 (A:List AV):∀ (is:List Nat) (k:List AV→Prop),X6 A is k=k (is.map fun i=>A.getD i AV.junk)
 | [],k=>rfl
 | i::is,k=>by simp only [X6,X5,S7 A is,List.map_cons]
def B4y (T:C9) (A:List AV) (st:St) (r:ResultVar) (k:AV→Prop):Prop :=
 match r with
 | .tmp t=>A3A A t k
 | .cell t ty=>A3A A t fun p=>A9n T ty p st (fun v _=>k v)
def A9o (T:C9) (A:List AV) (st:St):List ResultVar→(List AV→Prop)→Prop
 | [],k=>k []
 | r::rs,k=>B4y T A st r fun v=>A9o T A st rs fun vs=>k (v::vs)
theorem A5Y {T:C9} {A:List AV} {st:St}:∀ (rs:List ResultVar) (k:List AV→Prop),A9o T A st rs k→A3T T A st rs k
 | [],k,h=>h
 | r::rs,k,h=>by
  simp only [A9o] at h
  simp only [A3T]
  cases r with
  | tmp t=>simp only [B4y,A8i,X5] at h ⊢;exact A5Y rs _ h
  | cell t ty=>simp only [B4y,A8i,X5] at h ⊢;exact A0l (fun v hv=>A5Y rs _ hv) (A5U h)
def B6d (T:C9) (rs:List ResultVar) (post:KK):Exit→KA:=fun e A st=>match e with
 | .normal=>A9o T A st rs fun vs=>post (A5s vs) st
 | .ret=>A9o T A st rs fun vs=>post (A5s vs) st
 | _=>False
def B5Y:Nat→(List AV→Prop)→Prop
 | 0,k=>k []
 | n+1,k=>B5Y n fun A=>k (.tuple []::A)
theorem B1k:∀ (n:Nat) (k:List AV→Prop),B5Y n k=k (List.replicate n (.tuple []))
 | 0,k=>rfl
 | n+1,k=>by rw [B5Y,B1k n];rfl
def A1o:List AV→Nat→(List AV→Prop)→Prop
 | [],n,k=>B5Y n k
 | v::vs,n,k=>A1o vs (n - 1) fun A=>k (v::A)
theorem A6W:∀ (args:List AV) (n:Nat) (k:List AV→Prop),A1o args n k=k (start args n)
 | [],n,k=>by rw [A1o,B1k];simp [start]
 | v::vs,n,k=>by
  rw [A1o,A6W vs (n - 1)]
  unfold start
  simp only [List.length_cons,List.cons_append]
  rw [show n - 1 - vs.length=n - (vs.length+1) from by omega]
noncomputable def B4B (P:Program) (T:C9) (M:E5) (frz:List Nat) (ops:List Oper) (l:List Oper):List AV→St→KA→Prop :=
 List.rec (motive:=fun _=>List AV→St→KA→Prop) (fun A st k=>k A st)
  (fun o rest ih A st k=>match (match rest with | [o2]=>A1g frz o o2 | _=>none) with
   | some (p,t,u,y)=>(match rest with | [o2]=>A5V T p t u y o2.dst A st k | _=>False)
   | none=>match (match rest with | [om,o2]=>A3f frz o om o2 | _=>none) with
   | some (m,x,p,t,u,y)=>(match rest with | [_,o2]=>A4L T m x p t u y o2.dst A st k | _=>False)
   | none=>A4k ops o A
    (xOp P T M (inF frz o.dst) o.op A st fun v st'=>Y7 A o.dst v fun A'=>ih A' st' k)
    (Y7 A o.dst (.tuple []) fun A'=>ih A' st k)) l
theorem A8f {P:Program} {T:C9} {M:E5} {frz:List Nat} {ops:List Oper}:∀ l,B4B P T M frz ops l=B2G P T M frz ops l
 | []=>rfl
 | o::rest=>by
  funext A st k
  conv=>rhs;unfold B2G
  rw [←A8f rest]
  rfl
noncomputable def C1y (P:Program) (T:C9) (M:E5) (frz:List Nat) (ops:List Oper) (eff ext:List Nat) (ord:List Nat):List AV→St→KA→Prop :=
 List.rec (motive:=fun _=>List AV→St→KA→Prop) (fun A st k=>k A st)
  (fun i ord ih A st k=>match ops[i]? with
   | none=>False
   | some o=>match (match ord with | [j]=>(match ops[j]? with | some o2=>(match eff.contains i&&eff.contains j with | true=>A1g frz o o2 | false=>none) | none=>none) | _=>none) with
    | some (p,t,u,y)=>(match ord with | [j]=>(match ops[j]? with | some o2=>A5V T p t u y o2.dst A st k | none=>False) | _=>False)
    | none=>A4k ops o A
     (match eff.contains i with
      | true=>xOp P T M (inF frz o.dst) o.op A st fun v st'=>Y7 A o.dst v fun A'=>ih A' st' k
      | false=>match ext.contains i with
       | true=>∃ v,(∀ st',Ext st st'→xOp P T M (inF frz o.dst) o.op A st' fun v' st''=>v'=v∧st''=st')∧Y7 A o.dst v fun A'=>ih A' st k
       | false=>match A8B o.op with
        | true=>xOp P T M (inF frz o.dst) o.op A st fun v _=>Y7 A o.dst v fun A'=>ih A' st k
        | false=>∃ v,(xOp P T M (inF frz o.dst) o.op A st fun v' st''=>v'=v∧st''=st)∧Y7 A o.dst v fun A'=>ih A' st k)
     (Y7 A o.dst (.tuple []) fun A'=>ih A' st k)) ord
theorem B1o {P:Program} {T:C9} {M:E5} {frz:List Nat} {ops:List Oper} {eff ext:List Nat}:∀ l,C1y P T M frz ops eff ext l=A6p P T M frz ops eff ext l
 | []=>rfl
 | i::ord=>by
  funext A st k
  conv=>rhs;unfold A6p
  rw [←B1o ord]
  rfl
noncomputable def B6w (P:Program) (T:C9) (M:E5) (frz:List Nat) (ops:List Oper) (t:OT):List AV→St→KA→Prop :=
 OT.rec (motive:=fun _=>List AV→St→KA→Prop) (fun A st k=>k A st)
  (fun i _ ih A st k=>A9m P T M frz ops i (fun A' st'=>ih A' st' k) A st)
  (fun i _ ih A st k=>B6g P T M frz ops i (fun A' st'=>ih A' st' k) A st)
  (fun i j _ _ iht ihu A st k=>A9m P T M frz ops i (fun A' st'=>iht A' st' k) A st∧A9m P T M frz ops j (fun A' st'=>ihu A' st' k) A st) t
theorem A1x {P:Program} {T:C9} {M:E5} {frz:List Nat} {ops:List Oper}:∀ t,B6w P T M frz ops t=A2b P T M frz ops t
 | .done=>rfl
 | .gen i t=>by
  funext A st k
  conv=>rhs;unfold A2b
  rw [←A1x t];rfl
 | .qui i t=>by
  funext A st k
  conv=>rhs;unfold A2b
  rw [←A1x t];rfl
 | .two i j t u=>by
  funext A st k
  conv=>rhs;unfold A2b
  rw [←A1x t,←A1x u];rfl
noncomputable def yDr (P:Program) (T:C9) (M:E5) (frz:List Nat) (ops:List Oper) (A:List AV) (st:St) (k:KA):Prop :=
 ∃ eff ext ord:List Nat,match ord with
  | []=>∃ t:OT,(Region.noSelect ops.toArray&&okT ops.toArray eff t ops.length (Array.replicate ops.length false))=true∧B6w P T M frz ops t A st k
  | _::_=>(Region.noSelect ops.toArray&&A5q ops.toArray eff ext ord (Array.replicate ops.length false)&&(ord.length==ops.length))=true∧C1y P T M frz ops eff ext ord A st k
theorem B7O {P:Program} {T:C9} {M:E5} {frz:List Nat} {ops:List Oper} {A:List AV} {st:St} {k:KA}:yDr P T M frz ops A st k=xDr P T M frz ops A st k:=by
 unfold yDr xDr
 simp only [B1o,A1x]
theorem A0 (st:St) (b:Nat) (x:M6):upd st b x b=some x:=by simp [upd]
theorem A3 {st:St} {b c:Nat} {x:M6} (h:c≠b):upd st b x c=st c:=by simp [upd,h]
theorem A9j {st:St} {b c:Nat} {x:M6} (h:upd st b x c=none):c≠b∧st c=none:=by
 unfold upd at h
 split at h
 ·cases h
 ·rename_i e;exact ⟨e,h⟩
theorem A1F {st:St} {b:Nat} (h:st b=none) (x:M6):del (upd st b x) b=st:=funext fun c=>by
 unfold del upd
 split
 ·rename_i e;rw [e,h]
 ·rfl
theorem call {P:Program} {f:FuncId} {args:List AV} {st:St} {post k:KK} (h:S P f args st post) (hk:∀ v st',post v st'→k v st'):Q7 P f args st k:=by
 refine ⟨?_⟩;unfold V5;exact ⟨args,st,A4.refl _ _,h.mono hk⟩
theorem C1 {P:Program} {f:FuncId} {args:List AV} {st:St} {v:AV} {k:KK} (h:S P f args st fun v' st'=>v'=v∧st'=st) (hk:k v st):Q7 P f args st k :=
 call h fun v' st' ⟨e1,e2⟩=>by rw [e1,e2];exact hk
theorem F0 {P:Program} {f:FuncId} {args args':List AV} {st st':St} {k:KK} (hs:A4 args st args' st') (h:Q7 P f args' st' k):Q7 P f args st k:=by
 refine ⟨?_⟩
 have h:=h.out
 unfold V5 at *
 obtain ⟨a,s,h1,h2⟩:=h
 exact ⟨a,s,hs.trans h1,h2⟩
end Go.Ab
