/- Part 11 of the proof: contracts of the functions that the law reaches -/
import Derived.Test.YthdimklenlikgaaGreatQa10
set_option linter.unusedVariables false
set_option linter.unusedSimpArgs false
namespace Go.Ab
open Go
def A8F:List AV→Nat→(AV→Prop)→Prop
 | [],_,k=>k .junk
 | a::_,0,k=>k a
 | _::xs,n+1,k=>A8F xs n k
def B2P:List AV→Nat→AV→(List AV→Prop)→Prop
 | [],_,_,k=>k []
 | _::xs,0,v,k=>k (v::xs)
 | a::xs,n+1,v,k=>B2P xs n v fun xs'=>k (a::xs')
def A0U (A:List AV) (d:Option Tmp) (v:AV) (k:List AV→Prop):Prop:=match d with | some i=>B2P A i v k | none=>k A
theorem A3P:∀ (A:List AV) (i:Nat) (k:AV→Prop),A8F A i k=k (A.getD i .junk)
 | [],_,k=>by simp [A8F]
 | a::xs,0,k=>by simp [A8F]
 | a::xs,n+1,k=>by rw [A8F,A3P xs n k];simp
theorem A7o:∀ (A:List AV) (i:Nat) (v:AV) (k:List AV→Prop),B2P A i v k=k (A.set i v)
 | [],_,v,k=>by simp [B2P]
 | a::xs,0,v,k=>by simp [B2P]
 | a::xs,n+1,v,k=>by rw [B2P,A7o xs n v];simp
theorem R1 (A:List AV) (d:Option Tmp) (v:AV) (k:List AV→Prop):A0U A d v k=k (J4 A d v):=by
 cases d with
 | none=>rfl
 | some i=>exact A7o A i v k
def C5S (v:Value) (k:AV→Prop):Prop :=
 match v with
 | .bool b=>k (.bool b)
 | .int kk n=>k (.int kk n)
 | .string s=>k (.str s)
 | .pointer a=>(match a with | none=>k .nilp | some _=>k .junk)
 | .slice a l c=>(match a with | none=>(match l,c with | 0,0=>k .emp | _,_=>k .junk) | some _=>k .junk)
 | .nilFunc=>k .nilf
 | .nilIface=>k .nili
 | v=>k (G9 v)
theorem C2Q (v:Value) (k:AV→Prop):C5S v k=k (G9 v):=by
 cases v with
 | pointer a=>cases a<;>rfl
 | slice a l c=>cases a with
  | none=>cases l<;>cases c<;>rfl
  | some a=>rfl
 | _=>rfl
def evK (A:List AV) (x:Operand) (k:AV→Prop):Prop :=
 match x with
 | .tmp t=>A8F A t k
 | .const v=>C5S v k
 | .global _=>k .junk
 | .func f=>k (.fn (.func f) [] [])
theorem A2R (A:List AV) (x:Operand) (k:AV→Prop):evK A x k=k (ev A x):=by
 cases x with
 | tmp t=>exact A3P A t k
 | const v=>exact C2Q v k
 | _=>rfl
def B7S (A:List AV):List Operand→(List AV→Prop)→Prop
 | [],k=>k []
 | x::xs,k=>evK A x fun v=>B7S A xs fun vs=>k (v::vs)
theorem B6L (A:List AV):∀ (xs:List Operand) (k:List AV→Prop),B7S A xs k=k (xs.map (ev A))
 | [],k=>rfl
 | x::xs,k=>by simp only [B7S,A2R,B6L A xs,List.map_cons]
def B7R (A:List AV):List (Nat×Operand)→(List (Nat×AV)→Prop)→Prop
 | [],k=>k []
 | p::ps,k=>evK A p.2 fun v=>B7R A ps fun vs=>k ((p.1,v)::vs)
theorem A8O (A:List AV):∀ (ps:List (Nat×Operand)) (k:List (Nat×AV)→Prop),B7R A ps k=k (ps.map fun p=>(p.1,ev A p.2))
 | [],k=>rfl
 | p::ps,k=>by simp only [B7R,A2R,A8O A ps,List.map_cons]
def C2U (A:List AV) (x:Option Operand) (k:Option AV→Prop):Prop:=match x with | none=>k none | some y=>evK A y fun v=>k (some v)
theorem C2V (A:List AV) (x:Option Operand) (k:Option AV→Prop):C2U A x k=k (x.map (ev A)):=by
 cases x with
 | none=>rfl
 | some y=>exact A2R A y _
def A2D (b:Bool) (x y:Prop):Prop:=match b with | true=>x | false=>y
theorem V7 (b:Bool) (x y:Prop):A2D b x y↔(b=true→x)∧(b=false→y):=by cases b<;>simp [A2D]
theorem C3 {b:Bool} {x y:Prop} (h1:b=true→x) (h2:b=false→y):A2D b x y:=by cases b;exact h2 rfl;exact h1 rfl
structure A1C (P:Program) (f:FuncId) (args:List AV) (st:St) (k:KK):Prop where
 out:A2f P f args st k
def B9w:List AV→List AV→(List AV→Prop)→Prop
 | [],b,k=>k b
 | v::a,b,k=>B9w a b fun l=>k (v::l)
theorem A3I:∀ (a b:List AV) (k:List AV→Prop),B9w a b k=k (a++b)
 | [],b,k=>rfl
 | v::a,b,k=>by rw [B9w,A3I a b];rfl
def C0m:List AV→Nat→(Nat→Prop)→Prop
 | [],n,k=>k n
 | _::l,n,k=>C0m l (n+1) k
theorem B6R:∀ (l:List AV) (n:Nat) (k:Nat→Prop),C0m l n k=k (n+l.length)
 | [],n,k=>by simp [C0m]
 | a::l,n,k=>by rw [C0m,B6R l];simp [Nat.add_assoc,Nat.add_comm 1]
def B3V:List AV→List AV→(List AV→Prop)→Prop
 | cs,[],k=>k cs
 | _::cs,v::new,k=>B3V cs new fun r=>k (v::r)
 | [],_::_,k=>k []
def A7r:List AV→Nat→List AV→(List AV→Prop)→Prop
 | cs,0,new,k=>B3V cs new k
 | a::cs,n+1,new,k=>A7r cs n new fun r=>k (a::r)
 | [],_+1,_,k=>k []
theorem B3W:∀ (cs new:List AV) (k:List AV→Prop),new.length≤cs.length→B3V cs new k=k (new++cs.drop new.length)
 | cs,[],k,_=>by simp [B3V]
 | c::cs,v::new,k,h=>by rw [B3V,B3W cs new _ (by simpa using h)];simp
 | [],v::new,k,h=>by simp at h
theorem B0r:∀ (cs:List AV) (n:Nat) (new:List AV) (k:List AV→Prop),n+new.length≤cs.length→A7r cs n new k=k (cs.take n++new++cs.drop (n+new.length))
 | cs,0,new,k,h=>by rw [A7r,B3W cs new k (by omega)];simp
 | a::cs,n+1,new,k,h=>by
  rw [A7r,B0r cs n new _ (by simp at h;omega)]
  simp [show n+1+new.length=(n+new.length)+1 from by omega]
 | [],n+1,new,k,h=>by simp at h
def B1M (place:Nat→Option (Nat×Nat)):List (Nat×AV)→List AV→(List AV→Prop)→Prop
 | [],cells,k=>k cells
 | (i,v)::rest,cells,k=>match place i with
  | none=>False
  | some (off,size)=>match Nat.beq (cellsOf v).length size&&Nat.ble (off+size) cells.length&&(cellsOf v).all AV.one&&Nat.blt 0 size with
   | true=>A7r cells off (cellsOf v) fun cells'=>B1M place rest cells' k
   | false=>False
theorem A7w {place:Nat→Option (Nat×Nat)}:∀ (ps:List (Nat×AV)) (cells:List AV) (k:List AV→Prop),B1M place ps cells k→∃ out,A4g place cells ps=some out∧k out
 | [],cells,k,h=>⟨cells,rfl,h⟩
 | (i,v)::ps,cells,k,h=>by
  unfold B1M at h
  unfold A4g
  split at h
  ·exact h.elim
  ·rename_i off size hp
   rw [hp]
   simp only
   split at h
   ·rename_i hb
    simp only [Bool.and_eq_true,Nat.beq_eq,Nat.ble_eq,Nat.blt_eq] at hb
    obtain ⟨⟨⟨h1,h2⟩,h3⟩,h4⟩:=hb
    rw [B0r _ _ _ _ (by omega)] at h
    rw [if_neg (by simp only [not_or,Decidable.not_not,Bool.not_eq_false];exact ⟨h1,by omega,h3,by omega⟩)]
    rw [h1] at h
    exact A7w ps _ k h
   ·exact h.elim
def B6r (T:H3) (t:TypeId) (ps:List (Nat×AV)) (k:AV→Prop):Prop :=
 match T t with
 | none=>False
 | some r=>match r.desc with
  | .struct fs=>match places T fs.toList with
   | none=>False
   | some pl=>B1M (fun i=>pl[i]?) ps (cellsOf (G9 r.zero)) fun out=>k (.agg out)
  | .array n el=>match T el with
   | none=>False
   | some q=>B1M (fun i=>some (i * q.size,q.size)) ps (cellsOf (G9 r.zero)) fun out=>k (.agg out)
  | _=>False
theorem B9c {T:H3} {t:TypeId} {ps:List (Nat×AV)} {k:AV→Prop} (h:B6r T t ps k):A6d T t ps k:=by
 unfold B6r at h
 unfold A6d
 split at h
 ·exact h.elim
 ·rename_i r hr
  rw [hr]
  simp only
  split at h
  ·rename_i fs hd
   rw [hd]
   simp only
   split at h
   ·exact h.elim
   ·rename_i pl hp
    rw [hp]
    simp only
    obtain ⟨out,h1,h2⟩:=A7w _ _ _ h
    rw [h1];exact h2
  ·rename_i n el hd
   rw [hd]
   simp only
   split at h
   ·exact h.elim
   ·rename_i q hq
    rw [hq]
    simp only
    obtain ⟨out,h1,h2⟩:=A7w _ _ _ h
    rw [h1];exact h2
  ·exact h.elim
def A5e:Nat→List AV→(List AV→List AV→Prop)→Prop
 | 0,l,k=>k [] l
 | n+1,v::l,k=>A5e n l fun a b=>k (v::a) b
 | _+1,[],k=>k [] []
theorem A8d:∀ (n:Nat) (l:List AV) (k:List AV→List AV→Prop),A5e n l k=k (l.take n) (l.drop n)
 | 0,l,k=>by simp [A5e]
 | n+1,v::l,k=>by rw [A5e,A8d n l];simp
 | n+1,[],k=>by simp [A5e]
def A9x (agg:Bool) (e:Nat):Nat→List AV→(List AV→Prop)→Prop
 | 0,_,k=>k []
 | n+1,out,k=>match agg with
  | true=>A5e e out fun a b=>A9x agg e n b fun r=>k (.agg a::r)
  | false=>match out with
   | v::b=>A9x agg e n b fun r=>k (v::r)
   | []=>False
theorem B3C (agg:Bool) (e n:Nat) (out:List AV) (he:agg=false→e=1):A0n agg e (n+1) out=(if agg then .agg (out.take e) else out.getD 0 .junk)::A0n agg e n (out.drop e):=by
 unfold A0n
 rw [List.range_succ_eq_map,List.map_cons,List.map_map]
 congr 1
 ·cases agg<;>simp
 ·refine List.map_congr_left fun i _=>?_
  cases agg with
  | true =>
   simp only [Function.comp,if_true]
   rw [List.drop_drop,show (i+1) * e=e+i * e from by rw [Nat.add_mul];omega]
  | false =>
   have:=he rfl
   subst this
   simp
theorem A7K {agg:Bool} {e:Nat} (he:agg=false→e=1):∀ (n:Nat) (out:List AV) (k:List AV→Prop),A9x agg e n out k→k (A0n agg e n out)
 | 0,out,k,h=>h
 | n+1,out,k,h=>by
  unfold A9x at h
  rw [B3C agg e n out he]
  cases agg with
  | true =>
   simp only [A8d] at h
   exact A7K he n _ _ h
  | false =>
   simp only at h
   have:=he rfl
   subst this
   split at h
   ·rename_i v b;exact A7K he n _ _ h
   ·exact h.elim
def C3G (fz:Bool) (ty:TypeId) (v:AV) (st:St) (k:KK):Prop :=
 match Nat.blt 0 (cellsOf v).length&&(cellsOf v).all AV.one with
 | true=>(match fz with
  | true=>k (.fptr v 0) st
  | false=>C0m (cellsOf v) 0 fun n=>∀ b,st b=none→k (.optr n b 0 0) (upd st b ⟨ty,n,1,fun _=>v⟩))
 | false=>False
theorem B7u {fz:Bool} {ty:TypeId} {v:AV} {st:St} {k:KK} (h:C3G fz ty v st k):B7z ty v st k:=by
 unfold C3G at h
 split at h
 ·rename_i hb
  simp only [Bool.and_eq_true,Nat.blt_eq] at hb
  cases fz with
  | true=>exact ⟨hb.1,hb.2,.inl h⟩
  | false =>
   simp only [B6R,Nat.zero_add] at h
   exact ⟨hb.1,hb.2,.inr h⟩
 ·exact h.elim
def C5x (fz:Bool) (T:H3) (t:TypeId) (len:Nat) (ps:List (Nat×AV)) (st:St) (k:KK):Prop :=
 match T t with
 | none=>False
 | some r=>match r.desc with
  | .slice el=>match T el with
   | none=>False
   | some q=>match Nat.blt 0 (len * q.size)&&Nat.ble (len * q.size) 16777216&&Nat.beq q.zero.cells.size q.size&&(q.agg||Nat.beq q.size 1) with
    | false=>False
    | true=>B1M (fun i=>some (i * q.size,q.size)) ps ((List.range (len * q.size)).map fun i=>(cellsOf (G9 q.zero)).getD (i % q.size) .junk) fun out=>match out.all AV.one with
    | false=>False
    | true=>A9x q.agg q.size len out fun els=>match fz with
     | false=>k (.arr q.size len (fun i=>els.getD i .junk)) st
     | true=>∀ b,st b=none→k (.own q.size b 0 len) (upd st b ⟨el,q.size,len,fun i=>els.getD i .junk⟩)
  | _=>False
theorem C3J {fz:Bool} {T:H3} {t:TypeId} {len:Nat} {ps:List (Nat×AV)} {st:St} {k:KK} (h:C5x fz T t len ps st k):A0u T t len ps st k:=by
 unfold C5x at h
 unfold A0u
 split at h
 ·exact h.elim
 ·rename_i r hr
  rw [hr]
  simp only
  split at h
  ·rename_i el hd
   rw [hd]
   simp only
   split at h
   ·exact h.elim
   ·rename_i q hq
    rw [hq]
    split at h
    ·exact h.elim
    rename_i hb
    simp only [Bool.and_eq_true,Nat.blt_eq,Nat.ble_eq,Nat.beq_eq,Bool.or_eq_true] at hb
    obtain ⟨⟨⟨h1,h2⟩,h3⟩,h4'⟩:=hb
    have h4:q.agg=false→q.size=1:=fun e=>h4'.resolve_left (by simp [e])
    refine ⟨h1,h2,h3,h4,?_⟩
    obtain ⟨out,ho,h⟩:=A7w _ _ _ h
    rw [ho]
    split at h
    ·exact h.elim
    rename_i hone
    have h:=A7K h4 _ _ _ h
    refine ⟨hone,?_⟩
    cases fz with
    | false=>exact .inl h
    | true=>exact .inr h
  ·exact h.elim
def B1O (r:D2) (cs:List AV) (o:Nat) (k:AV→Prop):Prop :=
 match r.agg with
 | true=>(match Nat.ble (o+r.size) cs.length with
  | true=>A5e o cs fun _ b=>A5e r.size b fun c _=>k (.agg c)
  | false=>False)
 | false=>A8F cs o fun y=>match y with | .junk=>False | y=>k y
theorem B0F {r:D2} {cs:List AV} {o:Nat} {k:AV→Prop} (h:B1O r cs o k):pick r cs o k:=by
 unfold B1O at h
 unfold pick
 split at h
 ·rename_i e
  rw [e]
  split at h
  ·rename_i hb
   simp only [A8d] at h
   exact ⟨by simpa using hb,h⟩
  ·exact h.elim
 ·rename_i e
  rw [e]
  rw [A3P] at h
  simp only
  rw [List.getD_eq_getElem?_getD] at h
  cases hy:cs[o]? with
  | none=>rw [hy] at h;exact h.elim
  | some y=>rw [hy] at h;simp only [Option.getD_some] at h;split at h;exact h.elim;exact h
structure C5w (T:H3) (t:TypeId) (e b i o:Nat) (st:St) (k:KK):Prop where
 out:A2g T t (.optr e b i o) st k
def B4Q (T:H3) (t:TypeId) (v:AV) (st:St) (k:KK):Prop :=
 match v with
 | .fptr v o=>(match T t with | some r=>B1O r (cellsOf v) o (fun y=>k y st) | none=>False)
 | .optr e b i o=>C5w T t e b i o st k
 | _=>False
theorem B0D {T:H3} {t:TypeId} {v:AV} {st:St} {k:KK} (h:B4Q T t v st k):A2g T t v st k:=by
 unfold B4Q at h
 split at h
 ·unfold A2g
  split at h
  ·rename_i hr;rw [hr];exact B0F h
  ·exact h.elim
 ·exact h.out
 ·exact h.elim
structure C5y (T:H3) (t:TypeId) (e b i o:Nat) (v:AV) (st:St) (k:KK):Prop where
 out:(match T t with | some r=>0<r.size | none=>False)∧A6g T t (.optr e b i o) v st k
def C1K (T:H3) (t:TypeId) (p v:AV) (st:St) (k:KK):Prop:=match p with | .optr e b i o=>C5y T t e b i o v st k | _=>False
structure A5j (T:H3) (t:TypeId) (s x:AV) (st:St) (k:KK):Prop where
 out:A3F T t s x st k
structure xMk (T:H3) (t:TypeId) (l c:AV) (st:St) (k:KK):Prop where
 out:A9h T t l c st k
def B0C (T:H3) (b:Builtin) (args:List AV) (ts:List TypeId) (st:St) (k:KK):Prop :=
 match b with
 | .append=>match args,ts with
  | [s,x],[t,u]=>(match Nat.beq t u with | true=>A5j T t s x st k | false=>False)
  | _,_=>False
 | b=>A1v T b args ts st k
theorem B4N {T:H3} {b:Builtin} {args:List AV} {ts:List TypeId} {st:St} {k:KK} (h:B0C T b args ts st k):A1v T b args ts st k:=by
 unfold B0C at h
 split at h
 ·unfold A1v
  split at h
  ·split at h
   ·rename_i e;exact ⟨Nat.eq_of_beq_eq_true e,h.out⟩
   ·exact h.elim
  ·exact h.elim
 ·exact h
def B3g (P:Program) (T:H3) (M:H8) (r:AV) (name:String) (args:List AV) (st:St) (k:KK):Prop :=
 match r with
 | .iface t v=>match M t name with
  | some (f,none)=>A1C P f (v::args) st k
  | some (f,some el)=>B4Q T el v st (fun u st'=>A1C P f (u::args) st' k)
  | none=>False
 | _=>False
theorem B6u {P:Program} {T:H3} {M:H8} {r:AV} {name:String} {args:List AV} {st:St} {k:KK} (h:B3g P T M r name args st k):A5r P T M r name args st k:=by
 unfold B3g at h
 unfold A5r
 split at h
 ·rename_i t v
  simp only
  split at h
  ·rename_i f hf;rw [hf];exact h.out
  ·rename_i f el hf;rw [hf];exact A3G (k:=fun u st'=>A1C P f (u::args) st' k) (fun u hu=>hu.out) (B0D h)
  ·exact h.elim
 ·exact h.elim
def C5t (T:H3) (op:BinOp) (t:TypeId) (x y:AV) (k:AV→Prop):Prop :=
 match x,y,op with
 | .int kk a,.int _ b,.shl=>A2D (decide (b<0)) False (k (.int kk (kk.wrap (a * 2 ^ (min b.toNat kk.bits)))))
 | .int kk a,.int _ b,.shr=>A2D (decide (b<0)) False (k (.int kk (a.fdiv (2 ^ (min b.toNat kk.bits)))))
 | .int kk a,.int k' b,.quo=>match decide (kk=k') with | true=>A2D (decide (b=0)) False (k (.int kk (kk.wrap (a.tdiv b)))) | false=>False
 | .int kk a,.int k' b,.rem=>match decide (kk=k') with | true=>A2D (decide (b=0)) False (k (.int kk (a.tmod b))) | false=>False
 | x,y,op=>match B1T T op t x y with | some z=>k z | none=>False
theorem C3F {T:H3} {op:BinOp} {t:TypeId} {x y:AV} {k:AV→Prop} (h:C5t T op t x y k):match B1T T op t x y with | some z=>k z | none=>False:=by
 unfold C5t at h
 split at h
 ·obtain ⟨h1,h2⟩:=(V7 _ _ _).1 h
  rename_i kk a k' b
  by_cases hb:b<0
  ·exact (h1 (decide_eq_true hb)).elim
  ·simp only [B1T,A7A,if_neg hb];exact h2 (decide_eq_false hb)
 ·obtain ⟨h1,h2⟩:=(V7 _ _ _).1 h
  rename_i kk a k' b
  by_cases hb:b<0
  ·exact (h1 (decide_eq_true hb)).elim
  ·simp only [B1T,A7A,if_neg hb];exact h2 (decide_eq_false hb)
 ·rename_i kk a k' b
  by_cases hk:kk=k'
  ·rw [decide_eq_true hk] at h
   obtain ⟨h1,h2⟩:=(V7 _ _ _).1 h
   by_cases hb:b=0
   ·exact (h1 (decide_eq_true hb)).elim
   ·simp only [B1T,C2f,if_pos hk,if_neg hb];exact h2 (decide_eq_false hb)
  ·rw [decide_eq_false hk] at h;exact h.elim
 ·rename_i kk a k' b
  by_cases hk:kk=k'
  ·rw [decide_eq_true hk] at h
   obtain ⟨h1,h2⟩:=(V7 _ _ _).1 h
   by_cases hb:b=0
   ·exact (h1 (decide_eq_true hb)).elim
   ·simp only [B1T,C2f,if_pos hk,if_neg hb];exact h2 (decide_eq_false hb)
  ·rw [decide_eq_false hk] at h;exact h.elim
 ·exact h
def C1G (T:H3) (op:BinOp) (t:TypeId) (y:Operand) (vx vy:AV) (k:AV→Prop):Prop :=
 match C2g T op t y vx with
 | some z=>k z
 | none=>C5t T op t vx vy k
theorem C1H {T:H3} {op:BinOp} {t:TypeId} {y:Operand} {vx vy:AV} {k:AV→Prop} (h:C1G T op t y vx vy k):match B3l T op t y vx vy with | some z=>k z | none=>False:=by
 unfold C1G at h
 unfold B3l
 split at h
 ·rename_i z hz;rw [hz];exact h
 ·rename_i hz;rw [hz];exact C3F h
structure C5v (s:ByteArray) (j:Int) (k:AV→Prop):Prop where
 out:∃ h:0≤j∧j.toNat<s.size,k (.int .u8 ((s[j.toNat]'h.2).toNat:Int))
def B6t (T:H3) (t:TypeId) (v i:AV) (k:AV→Prop):Prop :=
 match T t with
 | none=>False
 | some r=>match r.desc,v,i with
  | .string,.str s,.int _ j=>C5v s j k
  | _,_,_=>False
theorem B9e {T:H3} {t:TypeId} {v i:AV} {k:AV→Prop} (h:B6t T t v i k):A6f T t v i k:=by
 unfold B6t at h
 unfold A6f
 split at h
 ·exact h.elim
 rename_i r hr
 rw [hr]
 simp only
 split at h
 ·rename_i s kk j hd
  rw [hd]
  exact h.out
 ·exact h.elim
def C2T (n:Nat) (k:Nat→Prop):Prop :=
 match n with
 | 0=>k 0 | 1=>k 1 | 2=>k 2 | 3=>k 3 | 4=>k 4 | 5=>k 5 | 6=>k 6 | 7=>k 7 | 8=>k 8 | 9=>k 9 | 10=>k 10 | 11=>k 11 | 12=>k 12 | 13=>k 13 | 14=>k 14 | 15=>k 15 | 16=>k 16 | 17=>k 17 | 18=>k 18 | 19=>k 19 | 20=>k 20 | n=>k n
theorem B6W (n:Nat) (k:Nat→Prop):C2T n k=k n:=by unfold C2T;split<;>rfl
def A6y (T:H3) (s:TypeId) (p:AV) (f:Nat) (k:AV→Prop):Prop :=
 match T s with
 | none=>False
 | some r=>match r.desc with
  | .struct fs=>match fs[f]? with
   | none=>False
   | some fl=>match T fl.type with
    | none=>False
    | some q=>match Nat.blt 0 q.size with
     | true=>(match p with
      | .fptr v o=>C2T (o+fl.offset) fun o'=>k (.fptr v o')
      | .optr e b i o=>C2T (o+fl.offset) fun o'=>k (.optr e b i o')
      | _=>False)
     | false=>False
  | _=>False
theorem B0Y {T:H3} {s:TypeId} {p:AV} {f:Nat} {k:AV→Prop} (h:A6y T s p f k):A0k T s p f k:=by
 unfold A6y at h
 unfold A0k
 split at h
 ·exact h.elim
 rename_i r hr
 rw [hr]
 simp only
 split at h
 case h_2=>exact h.elim
 rename_i fs hd
 rw [hd]
 simp only
 split at h
 ·exact h.elim
 rename_i fl hf
 rw [hf]
 simp only
 split at h
 ·exact h.elim
 rename_i q hq
 rw [hq]
 simp only
 split at h
 ·rename_i hb
  refine ⟨by simpa using hb,?_⟩
  split at h
  ·rw [B6W] at h;exact h
  ·rw [B6W] at h;exact h
  ·exact h.elim
 ·exact h.elim
def B6s (T:H3) (s:TypeId) (v:AV) (f:Nat) (k:AV→Prop):Prop :=
 match T s with
 | none=>False
 | some r=>match r.desc with
  | .struct fs=>match fs[f]? with
   | none=>False
   | some fl=>match T fl.type with
    | none=>False
    | some q=>match v with
     | .agg cs=>B1O q cs fl.offset k
     | _=>False
  | _=>False
theorem B9d {T:H3} {s:TypeId} {p:AV} {f:Nat} {k:AV→Prop} (h:B6s T s p f k):A6e T s p f k:=by
 unfold B6s at h
 unfold A6e
 split at h
 ·exact h.elim
 rename_i r hr
 rw [hr]
 simp only
 split at h
 case h_2=>exact h.elim
 rename_i fs hd
 rw [hd]
 simp only
 split at h
 ·exact h.elim
 rename_i fl hf
 rw [hf]
 simp only
 split at h
 ·exact h.elim
 rename_i q hq
 rw [hq]
 simp only
 split at h
 ·exact B0F h
 ·exact h.elim
def xOp (P:Program) (T:H3) (M:H8) (fz:Bool) (op:Op) (A:List AV) (st:St) (k:KK):Prop :=
 match op with
 | .move x=>evK A x fun v=>k v st
 | .assign x=>evK A x fun v=>k v st
 | .pick c x y=>evK A c fun v=>match v with | .bool b=>A2D b (evK A x fun u=>k u st) (evK A y fun u=>k u st) | _=>False
 | .binOp op t x y _=>evK A x fun v=>evK A y fun u=>C1G T op t y v u (fun z=>k z st)
 | .unOp op _ x=>evK A x fun v=>match aUn op v with | some z=>k z st | none=>False
 | .load t x=>evK A x fun v=>B4Q T t v st k
 | .store t x y=>evK A x fun v=>evK A y fun u=>C1K T t v u st k
 | .alloc t=>match T t with | some r=>C3G fz t (G9 r.zero) st k | none=>False
 | .box t x=>evK A x fun v=>C3G fz t v st k
 | .build t ps=>B7R A ps.toList fun vs=>B6r T t vs (fun v=>k v st)
 | .buildSlice t n ps=>match n with
  | 0=>B7R A ps.toList fun vs=>B3o T t vs st k
  | m+1=>B7R A ps.toList fun vs=>C5x fz T t (m+1) vs st k
 | .nilCheck x=>evK A x fun v=>match A5s v with | true=>k v st | false=>False
 | .convert s d x=>evK A x fun v=>match A6H T s d v with | some z=>k z st | none=>False
 | .makeInterface t x=>evK A x fun v=>match B2i T t with | true=>k (.iface t v) st | false=>False
 | .makeFunc fn fs cs=>B7S A fs.toList fun us=>B7S A cs.toList fun vs=>k (.fn fn us vs) st
 | .makeSlice t l c=>evK A l fun v=>evK A c fun u=>xMk T t v u st k
 | .slice t x lo hi mx=>evK A x fun v=>C2U A lo fun l=>C2U A hi fun h=>C2U A mx fun m=>A7B T t v l h m (fun v=>k v st)
 | .fieldAddr s x f=>evK A x fun v=>A6y T s v f (fun v=>k v st)
 | .field s x f=>evK A x fun v=>B6s T s v f (fun v=>k v st)
 | .indexAddr t x i=>evK A x fun v=>evK A i fun u=>A1a T t v u (fun v=>k v st)
 | .index t x i=>evK A x fun v=>evK A i fun u=>B6t T t v u (fun v=>k v st)
 | .typeAssert x _ t ok=>evK A x fun v=>match A8M T v t ok with | some z=>k z st | none=>False
 | .extract x i=>evK A x fun v=>A3d v i (fun v=>k v st)
 | .call c=>B7S A c.args.toList fun args=>match c.callee with
  | .builtin b=>B0C T b args c.argTypes.toList st k
  | .invoke r name=>evK A r fun v=>B3g P T M v name args st k
  | .value f=>evK A f fun v=>match v with
   | .fn g fs cs=>(match g with | .func n=>B9w fs args fun l=>B9w l cs fun l=>A1C P n l st k | _=>False)
   | _=>False
 | _=>False
theorem A2x {P:Program} {T:H3} {M:H8} {fz:Bool} {o:Oper} {A:List AV} {st:St} {k:KK} (h:xOp P T M fz o.op A st k):aOp P T M o A st k:=by
 obtain ⟨dst,op,type,pos,after,guard⟩:=o
 unfold aOp
 cases op<;>simp only [xOp,A2R,B6L,A8O,C2V,A3I] at h ⊢<;>try exact h
 case alloc t =>
  split at h
  ·rename_i r hr;rw [hr];exact B7u h
  ·exact h.elim
 case box t x=>exact B7u h
 case fieldAddr t x f=>exact B0Y h
 case field t x f=>exact B9d h
 case binOp op t x y _=>exact C1H h
 case index t x f=>exact B9e h
 case load t x=>exact B0D h
 case store t x y =>
  unfold C1K at h
  split at h
  ·rename_i hv;rw [hv];exact h.out
  ·exact h.elim
 case makeSlice t l c=>exact h.out
 case build t ps=>exact B9c h
 case buildSlice t n ps =>
  cases n with
  | zero=>simp only [A8O] at h;exact h
  | succ m=>simp only [A8O] at h;exact C3J h
 case pick c x y =>
  split at h
  ·rename_i b hb
   simp only [hb]
   exact (V7 _ _ _).1 h
  ·exact h.elim
 case nilCheck x =>
  split at h
  ·rename_i hb;exact ⟨hb,h⟩
  ·exact h.elim
 case makeInterface t x =>
  split at h
  ·rename_i hb;exact ⟨hb,h⟩
  ·exact h.elim
 case call c =>
  obtain ⟨callee,args,ts⟩:=c
  cases callee with
  | builtin b=>exact B4N h
  | invoke r name=>simp only [A2R] at h;exact B6u h
  | value f =>
   simp only [A2R,A3I] at h
   simp only [A3H]
   split at h
   ·rename_i g fs cs hf
    rw [hf]
    simp only
    split at h
    ·exact h.out
    ·exact h.elim
   ·exact h.elim
def A5m (ops:List Oper) (o:Oper) (A:List AV) (x y:Prop):Prop :=
 match o.guard with
 | none=>x
 | some (g,want)=>match ops[g]? with
  | none=>y
  | some p=>match p.dst with
   | none=>y
   | some d=>A8F A d fun v=>match v with
    | .bool b=>(match want with | true=>A2D b x y | false=>A2D b y x)
    | .tuple _=>y
    | _=>False
theorem A3z {ops:List Oper} {o:Oper} {A:List AV} {x y:Prop} (h:A5m ops o A x y):∃ b,A0b ops o A=some b∧(b=true→x)∧(b=false→y):=by
 unfold A5m at h
 unfold A0b
 split at h
 ·rename_i hg;exact ⟨true,by simp [hg],fun _=>h,fun e=>by cases e⟩
 ·rename_i g want hg
  simp only [hg]
  split at h
  ·rename_i hp;exact ⟨false,by simp [hp],(fun e=>by cases e),fun _=>h⟩
  ·rename_i p hp
   simp only [hp]
   split at h
   ·rename_i hd;exact ⟨false,by simp [hd],(fun e=>by cases e),fun _=>h⟩
   ·rename_i d hd
    simp only [hd]
    rw [A3P] at h
    rw [List.getD_eq_getElem?_getD] at h
    cases hA:A[d]? with
    | none=>exact ⟨false,by simp,(fun e=>by cases e),fun _=>by rw [hA] at h;exact h.elim⟩
    | some v =>
     rw [hA] at h
     simp only [Option.getD_some] at h
     split at h
     ·rename_i b
      cases want with
      | true=>exact ⟨b,by simp,(V7 _ _ _).1 h⟩
      | false=>exact ⟨!b,by simp,fun e=>((V7 _ _ _).1 h).2 (by simpa using e),fun e=>((V7 _ _ _).1 h).1 (by simpa using e)⟩
     ·exact ⟨false,rfl,(fun e=>by cases e),fun _=>h⟩
     ·exact h.elim
def inF (frz:List Nat) (d:Option Tmp):Bool:=match d with | some p=>frz.contains p | none=>false
def A4Q (frz:List Nat) (o1 o2:Oper):Option (Tmp×TypeId×TypeId×Operand) :=
 match o1.guard,o2.guard with
 | none,none=>match o1.op,o1.dst,o2.op with
  | .alloc t,some p,.store u (.tmp q) y=>(match Nat.beq p q&&frz.contains p with | true=>some (p,t,u,y) | false=>none)
  | _,_,_=>none
 | _,_=>none
theorem B5o {rd:Addr→Option Value} {sz:Nat→Nat} {v v':AV} {r:Nat} {c:Value} (he:cellsOf v=cellsOf v') (h:Rep rd sz (.fptr v r) c):Rep rd sz (.fptr v' r) c:=by
 cases h with
 | fptr v r a g hr hg=>exact .fptr v' r a g (fun j hj=>hr j (by rw [he];exact hj)) (fun j y hy=>hg j y (by rw [he];exact hy))
theorem C2z {A:List AV} {st:St} {p b:Nat} {d:Option Tmp} {x y:R3} {v:AV} {e:Nat} (hb:st b=none) (hn:0<y.n) (hv:cellsOf (y.f 0)=cellsOf v) (hp:p<A.length) (hd:d≠some p) :
  A4y (J4 (J4 A (some p) (.optr e b 0 0)) d (.tuple [])) (upd (upd st b x) b y) (J4 (J4 A (some p) (.fptr v 0)) d (.tuple [])) st:=by
 intro w a hA hS
 have hst:upd (upd st b x) b y b=some y:=by simp [upd]
 have hne:∀ c,c≠b→upd (upd st b x) b y c=st c:=fun c hc=>by simp [upd,hc]
 have he:Z4 (upd (upd st b x) b y) w st w:=⟨rfl,rfl,rfl,Nat.le_refl _,fun c _ hs=>⟨rfl,by
  by_cases hc:c=b
  ·subst hc;exact hb
  ·rw [hne c hc] at hs;exact hs⟩,fun _=>Nat.le_refl _⟩
 obtain ⟨cs,hok⟩:=hS b y hst
 refine ⟨⟨by have:=hA.len;simp [J4] at this ⊢;cases d<;>simp_all,fun i u hu=>?_,hA.defers⟩,fun c z hz=>?_,he⟩
 ·by_cases hi:i=p
  ·subst hi
   have hpt:(J4 (J4 A (some i) (.optr e b 0 0)) d (.tuple []))[i]?=some (.optr e b 0 0):=by
    cases d with
    | none=>simp [J4,hp]
    | some q=>simp only [J4];rw [List.getElem?_set_ne (fun h=>hd (by rw [h]))];simp [hp]
   have hpt':(J4 (J4 A (some i) (.fptr v 0)) d (.tuple []))[i]?=some (.fptr v 0):=by
    cases d with
    | none=>simp [J4,hp]
    | some q=>simp only [J4];rw [List.getElem?_set_ne (fun h=>hd (by rw [h]))];simp [hp]
   rw [hpt'] at hu
   cases hu
   obtain ⟨c,hc1,hc2⟩:=hA.at_ i _ hpt
   refine ⟨c,hc1,?_⟩
   cases hc2
   have:=B5o hv (A8l (hok.evo he rfl) hb hn)
   simpa using this
  ·have hsame:(J4 (J4 A (some p) (.optr e b 0 0)) d (.tuple []))[i]?=(J4 (J4 A (some p) (.fptr v 0)) d (.tuple []))[i]?:=by
    cases d with
    | none=>simp only [J4];rw [List.getElem?_set_ne (fun h=>hi h.symm),List.getElem?_set_ne (fun h=>hi h.symm)]
    | some q =>
     simp only [J4,List.getElem?_set,List.length_set]
     rw [if_neg (show ¬ p=i from fun h=>hi h.symm),if_neg (show ¬ p=i from fun h=>hi h.symm)]
   rw [←hsame] at hu
   obtain ⟨c,hc1,hc2⟩:=hA.at_ i u hu
   exact ⟨c,hc1,he.rep hc2⟩
 ·have hc:c≠b:=fun h=>by rw [h,hb] at hz;cases hz
  obtain ⟨ds,hd'⟩:=hS c z (by rw [hne c hc];exact hz)
  exact ⟨ds,hd'.evo he rfl⟩
def B5C (d:Option Tmp) (p:Tmp):Bool:=match d with | some q=>!Nat.beq q p | none=>true
def B6X (y:Operand) (p:Tmp):Bool:=match y with | .tmp q=>!Nat.beq q p | _=>true
theorem B8h {d:Option Tmp} {p:Tmp} (h:B5C d p=true):d≠some p:=fun e=>by subst e;simp [B5C] at h
theorem B3P {y:Operand} {p:Tmp} (h:B6X y p=true):y≠.tmp p:=fun e=>by subst e;simp [B6X] at h
def B0E (T:H3) (p:Tmp) (t u:TypeId) (y:Operand) (d:Option Tmp) (A:List AV) (st:St) (k:KA):Prop :=
 match T t,T u with
 | some r,some q=>evK A y fun v=>match Nat.blt p A.length&&B5C d p&&Nat.blt 0 q.size&&Nat.beq (cellsOf (G9 r.zero)).length q.size&&(cellsOf (G9 r.zero)).all AV.one&&Nat.beq (cellsOf v).length q.size&&(cellsOf v).all AV.one&&B6X y p with
   | true=>B2P A p (.fptr v 0) fun A'=>A0U A' d (.tuple []) fun A''=>k A'' st
   | false=>False
 | _,_=>False
theorem B2O {v:AV} {cs:List AV} (h:cs.length=(cellsOf v).length) (h1:cs.all AV.one=true) (h2:0<cs.length):cellsOf (R9 v 0 cs)=cs:=by
 rw [A5a (by omega) h1 h2]
 simp [h]
theorem A5k {P:Program} {T:H3} {M:H8} {frz:List Nat} {o1 o2:Oper} {p:Tmp} {t u:TypeId} {y:Operand} (hp:A4Q frz o1 o2=some (p,t,u,y)) {A:List AV} {st:St} {k:KA} (h:B0E T p t u y o2.dst A st k) :
  o1.guard=none∧o2.guard=none∧aOp P T M o1 A st fun v st'=>aOp P T M o2 (J4 A o1.dst v) st' fun v' st''=>A6F k (J4 (J4 A o1.dst v) o2.dst v') st'':=by
 unfold A4Q at hp
 split at hp
 case h_2=>cases hp
 rename_i hg1 hg2
 split at hp
 case h_2=>cases hp
 rename_i t' p' u' q' y' ho1 hd1 ho2
 split at hp
 case h_2=>cases hp
 rename_i hb
 cases hp
 simp only [Bool.and_eq_true] at hb
 obtain rfl:=Nat.eq_of_beq_eq_true hb.1
 refine ⟨hg1,hg2,?_⟩
 unfold B0E at h
 split at h
 case h_2=>exact h.elim
 rename_i r q hr hq
 rw [A2R] at h
 split at h
 case h_2=>exact h.elim
 rename_i hb
 simp only [Bool.and_eq_true,Nat.blt_eq,Nat.beq_eq] at hb
 obtain ⟨⟨⟨⟨⟨⟨⟨hlt,hd⟩,hq0⟩,hz1⟩,hz2⟩,hv1⟩,hv2⟩,hy⟩:=hb
 have hd:=B8h hd
 have hy:=B3P hy
 rw [A7o,R1] at h
 have hk:=h
 unfold aOp
 rw [ho1,ho2,hd1]
 simp only [hr,hq]
 refine ⟨by omega,hz2,.inr fun b hb=>⟨hq0,?_⟩⟩
 have hevp:ev (J4 A (some p) (.optr (cellsOf (G9 r.zero)).length b 0 0)) (.tmp p)=.optr (cellsOf (G9 r.zero)).length b 0 0:=by
  simp [ev,J4,hlt]
 have hevy:ev (J4 A (some p) (.optr (cellsOf (G9 r.zero)).length b 0 0)) y=ev A y:=B5k fun t ht hyt=>by
  cases ht;exact hy hyt
 unfold A6g
 simp only [hq,hevp,hevy]
 have hst:upd st b ⟨t,(cellsOf (G9 r.zero)).length,1,fun _=>G9 r.zero⟩ b=some ⟨t,(cellsOf (G9 r.zero)).length,1,fun _=>G9 r.zero⟩:=by simp [upd]
 rw [hst]
 refine ⟨rfl,Nat.one_pos,hv1,hv2,by simp only;omega,_,_,C2z hb Nat.one_pos ?_ hlt hd,hk⟩
 simp only [C9,if_true]
 exact B2O (by omega) hv2 (by omega)
def A7v (frz:List Nat) (o om o2:Oper):Option (Tmp×Operand×Tmp×TypeId×TypeId×Operand) :=
 match om.guard,om.op,om.dst,A4Q frz o o2 with
 | none,.assign x,some m,some (p,t,u,y)=>(match !Nat.beq m p&&B6X x p with | true=>some (m,x,p,t,u,y) | false=>none)
 | _,_,_,_=>none
def A9c (T:H3) (m:Tmp) (x:Operand) (p:Tmp) (t u:TypeId) (y:Operand) (d:Option Tmp) (A:List AV) (st:St) (k:KA):Prop :=
 evK A x fun v=>B2P A m v fun A1=>B0E T p t u y d A1 st k
theorem B0K {P:Program} {T:H3} {M:H8} {o:Oper} {t:TypeId} (ho:o.op=.alloc t) {A B:List AV} {st:St} {k:KK} (h:aOp P T M o A st k):aOp P T M o B st k:=by
 unfold aOp at *
 rw [ho] at h ⊢
 exact h
theorem B1a {P:Program} {T:H3} {M:H8} {frz:List Nat} {o1 om o2:Oper} {m p:Tmp} {x:Operand} {t u:TypeId} {y:Operand} (hp:A7v frz o1 om o2=some (m,x,p,t,u,y)) {A:List AV} {st:St} {k:KA} (h:A9c T m x p t u y o2.dst A st k) :
  o1.guard=none∧om.guard=none∧o2.guard=none∧aOp P T M o1 A st fun v st'=>aOp P T M om (J4 A o1.dst v) st' fun v1 st1=>aOp P T M o2 (J4 (J4 A o1.dst v) om.dst v1) st1 fun v' st''=>A6F k (J4 (J4 (J4 A o1.dst v) om.dst v1) o2.dst v') st'':=by
 unfold A7v at hp
 split at hp
 case h_2=>cases hp
 rename_i x' m' p' t' u' y' hg hop hdst hpr
 split at hp
 case h_2=>cases hp
 rename_i hb
 cases hp
 simp only [Bool.and_eq_true,Bool.not_eq_true'] at hb
 have hmp:m≠p:=fun e=>by subst e;simp at hb
 have hxp:x≠.tmp p:=B3P hb.2
 unfold A9c at h
 rw [A2R,A7o] at h
 obtain ⟨g1,g2,h1⟩:=A5k (P:=P) (M:=M) hpr h
 have hal:∃ t0,o1.op=.alloc t0∧o1.dst=some p:=by
  unfold A4Q at hpr
  split at hpr
  case h_2=>cases hpr
  split at hpr
  case h_2=>cases hpr
  rename_i t0 p0 u0 q0 y0 ho1 hd1 ho2
  split at hpr
  case h_2=>cases hpr
  cases hpr
  exact ⟨_,ho1,hd1⟩
 obtain ⟨t0,ho1,hd1⟩:=hal
 refine ⟨g1,hg,g2,N6 (fun v st' h2=>?_) (B0K (B:=A) ho1 h1)⟩
 have e1:ev (J4 A (some p) v) x=ev A x:=B5k fun t ht hx=>by cases ht;exact hxp hx
 have e2:J4 (J4 A (some p) v) (some m) (ev A x)=J4 (A.set m (ev A x)) (some p) v:=by
  have:=A5E A (x:=some p) (y:=some m) v (ev A x) (fun d hd e=>by cases hd;cases e;exact hmp rfl)
  exact this
 rw [hd1] at h2 ⊢
 rw [hdst]
 unfold aOp
 rw [hop]
 simp only [e1,e2]
 exact h2
def B6v (P:Program) (T:H3) (M:H8) (frz:List Nat) (ops:List Oper):List Oper→List AV→St→KA→Prop
 | [],A,st,k=>k A st
 | o::rest,A,st,k=>match (match rest with | [o2]=>A4Q frz o o2 | _=>none) with
  | some (p,t,u,y)=>(match rest with | [o2]=>B0E T p t u y o2.dst A st k | _=>False)
  | none=>match (match rest with | [om,o2]=>A7v frz o om o2 | _=>none) with
  | some (m,x,p,t,u,y)=>(match rest with | [_,o2]=>A9c T m x p t u y o2.dst A st k | _=>False)
  | none=>A5m ops o A
   (xOp P T M (inF frz o.dst) o.op A st fun v st'=>A0U A o.dst v fun A'=>B6v P T M frz ops rest A' st' k)
   (A0U A o.dst (.tuple []) fun A'=>B6v P T M frz ops rest A' st k)
theorem A3e {P:Program} {T:H3} {M:H8} {ops:List Oper} {o:Oper} {rest:List Oper} {A:List AV} {st:St} {k:KA} (hg:o.guard=none) (h:aOp P T M o A st fun v st'=>A5P P T M ops rest (J4 A o.dst v) st' k):A5P P T M ops (o::rest) A st k:=by
 unfold A5P A0b
 rw [hg]
 exact ⟨fun _=>h,fun e=>by cases e⟩
theorem A9b {P:Program} {T:H3} {M:H8} {frz:List Nat} {ops:List Oper}:∀ (l:List Oper) (A:List AV) (st:St) (k:KA),B6v P T M frz ops l A st k→A5P P T M ops l A st (A6F k)
 | [],A,st,k,h=>⟨A,st,A4y.refl A st,h⟩
 | o::rest,A,st,k,h=>by
  unfold B6v at h
  split at h
  ·rename_i p t u y hp
   split at hp
   ·rename_i o2
    obtain ⟨g1,g2,h1⟩:=A5k (P:=P) (M:=M) hp h
    exact A3e g1 (N6 (fun v st' h2=>A3e g2 h2) h1)
   ·cases hp
  ·split at h
   ·rename_i m x p t u y hp
    split at hp
    ·rename_i om o2
     obtain ⟨g1,g2,g3,h1⟩:=B1a (P:=P) (M:=M) hp h
     exact A3e g1 (N6 (fun v st' h2=>A3e g2 (N6 (fun v1 st1 h3=>A3e g3 h3) h2)) h1)
    ·cases hp
   obtain ⟨b,hb,h1,h2⟩:=A3z h
   unfold A5P
   rw [hb]
   refine ⟨fun e=>N6 (fun v st' hk=>?_) (A2x (h1 e)),fun e=>?_⟩
   ·rw [R1] at hk;exact A9b rest _ _ _ hk
   ·have:=h2 e;rw [R1] at this;exact A9b rest _ _ _ this
def A5U (op:Op):Bool:=X1 op||(match op with | .load ..=>true | _=>false)
theorem A9R {r:D2} {cs:List AV} {i:Nat} {k:AV→Prop} (h:pick r cs i k):∃ v,(pick r cs i fun v'=>v'=v)∧k v:=by
 unfold pick at *
 split at h
 ·exact ⟨_,⟨h.1,rfl⟩,h.2⟩
 ·split at h
  ·exact ⟨_,rfl,h⟩
  ·exact h.elim
theorem B2e {P:Program} {T:H3} {M:H8} {o:Oper} (hd:A5U o.op=true) {A:List AV} {st:St} {k:KK} (h:aOp P T M o A st k):∃ v,(aOp P T M o A st fun v' s=>v'=v∧s=st)∧k v st:=by
 have fin:∀ {v:AV},(aOp P T M o A st fun v' s=>v'=v)→A5U o.op=true→True:=fun _ _=>trivial
 unfold aOp at *
 split at h
 ·exact ⟨_,⟨rfl,rfl⟩,h⟩
 ·exact ⟨_,⟨rfl,rfl⟩,h⟩
 ·split at h
  ·rename_i b hb
   cases b with
   | true=>exact ⟨_,⟨fun _=>⟨rfl,rfl⟩,fun e=>by cases e⟩,h.1 rfl⟩
   | false=>exact ⟨_,⟨(fun e=>by cases e),fun _=>⟨rfl,rfl⟩⟩,h.2 rfl⟩
  ·exact h.elim
 ·split at h
  ·exact ⟨_,⟨rfl,rfl⟩,h⟩
  ·exact h.elim
 ·split at h
  ·exact ⟨_,⟨rfl,rfl⟩,h⟩
  ·exact h.elim
 ·unfold A2g at *
  split at h
  ·exact h.elim
  ·split at h
   ·obtain ⟨v,h1,h2⟩:=A9R h
    exact ⟨v,A2b (fun v' e=>⟨e,rfl⟩) h1,h2⟩
   ·split at h
    ·obtain ⟨v,h1,h2⟩:=A9R h.2.2
     exact ⟨v,⟨h.1,h.2.1,A2b (fun v' e=>⟨e,rfl⟩) h1⟩,h2⟩
    ·exact h.elim
   ·exact h.elim
 ·rename_i ho;rw [ho] at hd;cases hd
 ·rename_i ho;rw [ho] at hd;cases hd
 ·rename_i ho;rw [ho] at hd;cases hd
 ·unfold A6d at *
  split at h
  ·exact h.elim
  ·split at h
   ·split at h
    ·exact h.elim
    ·split at h
     ·exact ⟨_,⟨rfl,rfl⟩,h⟩
     ·exact h.elim
   ·split at h
    ·exact h.elim
    ·split at h
     ·exact ⟨_,⟨rfl,rfl⟩,h⟩
     ·exact h.elim
   ·exact h.elim
 ·rename_i ho;rw [ho] at hd;cases hd
 ·exact ⟨_,⟨h.1,rfl,rfl⟩,h.2⟩
 ·split at h
  ·exact ⟨_,⟨rfl,rfl⟩,h⟩
  ·exact h.elim
 ·exact ⟨_,⟨h.1,rfl,rfl⟩,h.2⟩
 ·exact ⟨_,⟨rfl,rfl⟩,h⟩
 ·rename_i ho;rw [ho] at hd;cases hd
 ·unfold A7B at *
  split at h
  ·exact h.elim
  ·split at h
   ·split at h
    ·exact h.elim
    ·split at h
     ·exact ⟨_,⟨h.1,h.2.1,h.2.2.1,h.2.2.2.1,rfl,rfl⟩,h.2.2.2.2⟩
     ·split at h
      ·split at h
       ·exact ⟨_,⟨h.1,h.2.1,rfl,rfl⟩,h.2.2⟩
       ·exact h.elim
      ·split at h
       ·exact ⟨_,⟨h.1,h.2.1,h.2.2.1,rfl,rfl⟩,h.2.2.2⟩
       ·exact h.elim
      ·split at h
       ·exact ⟨_,⟨h.1,h.2.1,rfl,rfl⟩,h.2.2⟩
       ·exact h.elim
      ·exact h.elim
   ·split at h
    ·split at h
     ·exact ⟨_,⟨h.1,rfl,rfl⟩,h.2⟩
     ·exact h.elim
    ·exact h.elim
   ·exact h.elim
 ·unfold A0k at *
  split at h
  ·exact h.elim
  ·split at h
   ·split at h
    ·exact h.elim
    ·split at h
     ·exact h.elim
     ·obtain ⟨h0,h⟩:=h
      split at h
      ·exact ⟨_,⟨h0,rfl,rfl⟩,h⟩
      ·exact ⟨_,⟨h0,rfl,rfl⟩,h⟩
      ·exact h.elim
   ·exact h.elim
 ·unfold A6e at *
  split at h
  ·exact h.elim
  ·split at h
   ·split at h
    ·exact h.elim
    ·split at h
     ·exact h.elim
     ·split at h
      ·obtain ⟨v,h1,h2⟩:=A9R h
       exact ⟨v,A2b (fun v' e=>⟨e,rfl⟩) h1,h2⟩
      ·exact h.elim
   ·exact h.elim
 ·unfold A1a at *
  split at h
  ·exact h.elim
  ·split at h
   ·split at h
    ·exact h.elim
    ·split at h
     ·split at h
      ·exact ⟨_,⟨h.1,h.2.1,rfl,rfl⟩,h.2.2⟩
      ·exact ⟨_,⟨h.1,h.2.1,rfl,rfl⟩,h.2.2⟩
      ·exact h.elim
     ·exact h.elim
   ·split at h
    ·exact h.elim
    ·split at h
     ·obtain ⟨h0,h⟩:=h
      split at h
      ·exact ⟨_,⟨h0,rfl,rfl⟩,h⟩
      ·exact ⟨_,⟨h0,rfl,rfl⟩,h⟩
      ·exact h.elim
     ·exact h.elim
   ·exact h.elim
 ·unfold A6f at *
  split at h
  ·exact h.elim
  ·split at h
   ·obtain ⟨h0,h⟩:=h
    exact ⟨_,⟨h0,rfl,rfl⟩,h⟩
   ·exact h.elim
 ·split at h
  ·exact ⟨_,⟨rfl,rfl⟩,h⟩
  ·exact h.elim
 ·unfold A3d at *
  split at h
  ·split at h
   ·exact ⟨_,⟨rfl,rfl⟩,h⟩
   ·exact h.elim
  ·exact h.elim
 ·rename_i c ho
  rw [ho] at hd
  split at h
  ·rename_i b hb
   simp only [A5U,X1,hb,Bool.or_false] at hd
   unfold A1v at *
   split at h
   ·split at h
    ·split at h
     ·split at h
      ·exact ⟨_,⟨rfl,rfl⟩,h⟩
      ·exact h.elim
     ·exact h.elim
    ·exact h.elim
   ·split at h
    ·split at h
     ·exact ⟨_,⟨rfl,rfl⟩,h⟩
     ·exact h.elim
    ·exact h.elim
   ·split at h
    ·split at h
     ·exact ⟨_,⟨rfl,rfl⟩,h⟩
     ·exact h.elim
    ·exact h.elim
   ·cases hd
   ·exact h.elim
  ·rename_i r name hb
   simp [A5U,X1,hb] at hd
  ·rename_i f hb
   simp [A5U,X1,hb] at hd
 ·exact h.elim
def B0Z (P:Program) (T:H3) (M:H8) (frz:List Nat) (ops:List Oper) (eff ext:List Nat):List Nat→List AV→St→KA→Prop
 | [],A,st,k=>k A st
 | i::ord,A,st,k=>match ops[i]? with
  | none=>False
  | some o=>match (match ord with | [j]=>(match ops[j]? with | some o2=>(match eff.contains i&&eff.contains j with | true=>A4Q frz o o2 | false=>none) | none=>none) | _=>none) with
   | some (p,t,u,y)=>(match ord with | [j]=>(match ops[j]? with | some o2=>B0E T p t u y o2.dst A st k | none=>False) | _=>False)
   | none=>A5m ops o A
    (match eff.contains i with
     | true=>xOp P T M (inF frz o.dst) o.op A st fun v st'=>A0U A o.dst v fun A'=>B0Z P T M frz ops eff ext ord A' st' k
     | false=>match ext.contains i with
      | true=>∃ v,(∀ st',Ext st st'→xOp P T M (inF frz o.dst) o.op A st' fun v' st''=>v'=v∧st''=st')∧A0U A o.dst v fun A'=>B0Z P T M frz ops eff ext ord A' st k
      | false=>match A5U o.op with
       | true=>xOp P T M (inF frz o.dst) o.op A st fun v _=>A0U A o.dst v fun A'=>B0Z P T M frz ops eff ext ord A' st k
       | false=>∃ v,(xOp P T M (inF frz o.dst) o.op A st fun v' st''=>v'=v∧st''=st)∧A0U A o.dst v fun A'=>B0Z P T M frz ops eff ext ord A' st k)
    (A0U A o.dst (.tuple []) fun A'=>B0Z P T M frz ops eff ext ord A' st k)
theorem A5M {P:Program} {T:H3} {M:H8} {frz:List Nat} {ops:List Oper} {eff ext:List Nat}:∀ (ord:List Nat) (A:List AV) (st:St) (k:KA),B0Z P T M frz ops eff ext ord A st k→A6P P T M ops eff ext ord A st (A6F k)
 | [],A,st,k,h=>⟨A,st,A4y.refl A st,h⟩
 | i::ord,A,st,k,h=>by
  unfold B0Z at h
  cases ho:ops[i]? with
  | none=>rw [ho] at h;exact h.elim
  | some o =>
   rw [ho] at h
   simp only at h
   split at h
   ·rename_i p t u y hp
    split at hp
    ·rename_i j
     split at hp
     ·rename_i o2 ho2
      split at hp
      ·rename_i hee
       simp only [Bool.and_eq_true] at hee
       simp only [ho2] at h
       obtain ⟨g1,g2,h1⟩:=A5k (P:=P) (M:=M) hp h
       unfold A6P
       rw [ho]
       have w1:A0b ops o A=some true:=by unfold A0b;rw [g1]
       simp only [w1]
       refine ⟨fun _=>?_,fun e=>by cases e⟩
       rw [hee.1]
       refine N6 (fun v st' h2=>?_) h1
       unfold A6P
       rw [ho2]
       have w2:A0b ops o2 (J4 A o.dst v)=some true:=by unfold A0b;rw [g2]
       simp only [w2]
       refine ⟨fun _=>?_,fun e=>by cases e⟩
       rw [hee.2]
       exact N6 (fun v' st'' h3=>h3) h2
      ·cases hp
     ·cases hp
    ·cases hp
   ·unfold A6P
    rw [ho]
    simp only
    obtain ⟨b,hb,h1,h2⟩:=A3z h
    rw [hb]
    simp only
    refine ⟨fun e=>?_,fun e=>?_⟩
    ·have h1:=h1 e
     split at h1
     ·rename_i hc
      rw [hc]
      exact N6 (fun v st' hk=>by rw [R1] at hk;exact A5M ord _ _ _ hk) (A2x h1)
     ·rename_i hc
      rw [hc]
      simp only
      split at h1
      ·rename_i hx
       rw [hx]
       obtain ⟨v,hv,hk⟩:=h1
       rw [R1] at hk
       exact ⟨v,fun st' hs=>A2x (hv st' hs),A5M ord _ _ _ hk⟩
      ·rename_i hx
       rw [hx]
       simp only
       split at h1
       ·rename_i hdet
        obtain ⟨v,hv,hk⟩:=B2e hdet (A2x h1)
        rw [R1] at hk
        exact ⟨v,hv,A5M ord _ _ _ hk⟩
       ·obtain ⟨v,hv,hk⟩:=h1
        rw [R1] at hk
        exact ⟨v,A2x hv,A5M ord _ _ _ hk⟩
    ·have:=h2 e
     rw [R1] at this
     exact A5M ord _ _ _ this
def B4P (P:Program) (T:H3) (M:H8) (frz:List Nat) (ops:List Oper) (i:Nat) (K:KA) (A:List AV) (st:St):Prop :=
 match ops[i]? with
 | none=>False
 | some o=>A5m ops o A (xOp P T M (inF frz o.dst) o.op A st fun v st'=>A0U A o.dst v fun A'=>K A' st') (A0U A o.dst (.tuple []) fun A'=>K A' st)
def C3H (P:Program) (T:H3) (M:H8) (frz:List Nat) (ops:List Oper) (i:Nat) (K:KA) (A:List AV) (st:St):Prop :=
 match ops[i]? with
 | none=>False
 | some o=>A5m ops o A
  (match A5U o.op with
   | true=>xOp P T M (inF frz o.dst) o.op A st fun v _=>A0U A o.dst v fun A'=>K A' st
   | false=>∃ v,(xOp P T M (inF frz o.dst) o.op A st fun v' st''=>v'=v∧st''=st)∧A0U A o.dst v fun A'=>K A' st)
  (A0U A o.dst (.tuple []) fun A'=>K A' st)
def A6b (P:Program) (T:H3) (M:H8) (frz:List Nat) (ops:List Oper):OT→List AV→St→KA→Prop
 | .done,A,st,k=>k A st
 | .gen i t,A,st,k=>B4P P T M frz ops i (fun A' st'=>A6b P T M frz ops t A' st' k) A st
 | .qui i t,A,st,k=>C3H P T M frz ops i (fun A' st'=>A6b P T M frz ops t A' st' k) A st
 | .two i j t u,A,st,k=>B4P P T M frz ops i (fun A' st'=>A6b P T M frz ops t A' st' k) A st∧B4P P T M frz ops j (fun A' st'=>A6b P T M frz ops u A' st' k) A st
theorem B3f {P:Program} {T:H3} {M:H8} {frz:List Nat} {ops:List Oper} {i:Nat} {K K':KA} {A:List AV} {st:St} (hK:∀ A st,K A st→K' A st) (h:B4P P T M frz ops i K A st):B0O P T M ops i K' A st:=by
 unfold B4P at h
 unfold B0O
 cases ho:ops[i]? with
 | none=>rw [ho] at h;exact h.elim
 | some o =>
  rw [ho] at h
  simp only at h ⊢
  obtain ⟨b,hb,h1,h2⟩:=A3z h
  rw [hb]
  refine ⟨fun e=>?_,fun e=>?_⟩
  ·exact N6 (fun v st' hk=>by rw [R1] at hk;exact hK _ _ hk) (A2x (h1 e))
  ·have:=h2 e
   rw [R1] at this;exact hK _ _ this
theorem C3I {P:Program} {T:H3} {M:H8} {frz:List Nat} {ops:List Oper} {i:Nat} {K K':KA} {A:List AV} {st:St} (hK:∀ A st,K A st→K' A st) (h:C3H P T M frz ops i K A st):B9P P T M ops i K' A st:=by
 unfold C3H at h
 unfold B9P
 cases ho:ops[i]? with
 | none=>rw [ho] at h;exact h.elim
 | some o =>
  rw [ho] at h
  simp only at h ⊢
  obtain ⟨b,hb,h1,h2⟩:=A3z h
  rw [hb]
  refine ⟨fun e=>?_,fun e=>?_⟩
  ·have h1:=h1 e
   split at h1
   ·rename_i hdet
    obtain ⟨v,hv,hk⟩:=B2e hdet (A2x h1)
    rw [R1] at hk
    exact ⟨v,hv,hK _ _ hk⟩
   ·obtain ⟨v,hv,hk⟩:=h1
    rw [R1] at hk
    exact ⟨v,A2x hv,hK _ _ hk⟩
  ·have:=h2 e
   rw [R1] at this;exact hK _ _ this
theorem A5l {P:Program} {T:H3} {M:H8} {frz:List Nat} {ops:List Oper}:∀ (t:OT) (A:List AV) (st:St) (k:KA),A6b P T M frz ops t A st k→A4i P T M ops t A st (A6F k)
 | .done,A,st,k,h=>⟨A,st,A4y.refl A st,h⟩
 | .gen i t,A,st,k,h=>B3f (fun A st h=>A5l t A st k h) h
 | .qui i t,A,st,k,h=>C3I (fun A st h=>A5l t A st k h) h
 | .two i j t u,A,st,k,h=>⟨B3f (fun A st h=>A5l t A st k h) h.1,B3f (fun A st h=>A5l u A st k h) h.2⟩
def xDr (P:Program) (T:H3) (M:H8) (frz:List Nat) (ops:List Oper) (A:List AV) (st:St) (k:KA):Prop :=
 ∃ eff ext ord:List Nat,match ord with
  | []=>∃ t:OT,(Region.noSelect ops.toArray&&okT ops.toArray eff t ops.length (Array.replicate ops.length false))=true∧A6b P T M frz ops t A st k
  | _::_=>(Region.noSelect ops.toArray&&A9P ops.toArray eff ext ord (Array.replicate ops.length false)&&(ord.length==ops.length))=true∧B0Z P T M frz ops eff ext ord A st k
theorem C1I {P:Program} {T:H3} {M:H8} {frz:List Nat} {ops:List Oper} {A:List AV} {st:St} {k:KA} (h:xDr P T M frz ops A st k):Dr P T M ops A st (A6F k):=by
 obtain ⟨eff,ext,ord,h⟩:=h
 refine ⟨eff,ext,ord,?_⟩
 split at h
 ·obtain ⟨t,h1,h2⟩:=h
  exact ⟨t,h1,A5l t _ _ _ h2⟩
 ·exact ⟨h.1,A5M _ _ _ _ h.2⟩
def B1C:Nat→(List AV→Prop)→Prop
 | 0,k=>k []
 | n+1,k=>B1C n fun A=>k (.junk::A)
theorem B0f:∀ (n:Nat) (k:List AV→Prop),B1C n k=k (List.replicate n .junk)
 | 0,k=>rfl
 | n+1,k=>by rw [B1C,B0f n];rfl
def A8t:List Nat→List AV→List AV→(List AV→Prop)→Prop
 | i::is,v::vs,A,k=>B2P A i v fun A'=>A8t is vs A' k
 | _,_,A,k=>k A
theorem B0m:∀ (is:List Nat) (vs A:List AV) (k:List AV→Prop),A8t is vs A k=k ((is.zip vs).foldl (fun A p=>A.set p.1 p.2) A)
 | [],vs,A,k=>by simp [A8t]
 | i::is,[],A,k=>by simp [A8t]
 | i::is,v::vs,A,k=>by simp only [A8t,A7o,B0m is vs,List.zip_cons_cons,List.foldl_cons]
def A3l (A:List AV):List Nat→(List AV→Prop)→Prop
 | [],k=>k []
 | i::is,k=>A8F A i fun v=>A3l A is fun vs=>k (v::vs)
theorem A0L (A:List AV):∀ (is:List Nat) (k:List AV→Prop),A3l A is k=k (is.map fun i=>A.getD i AV.junk)
 | [],k=>rfl
 | i::is,k=>by simp only [A3l,A3P,A0L A is,List.map_cons]
def X (P:Program) (T:H3) (M:H8) (frz:List Nat):Code→List AV→St→(Exit→KA)→Prop
 | .skip,A,st,K=>K .normal A st
 | .region _ ops draw,A,st,K=>match draw with
  | false=>B6v P T M frz ops.toList ops.toList A st (K .normal)
  | true=>xDr P T M frz ops.toList A st (K .normal)
 | .seq x y,A,st,K=>X P T M frz x A st fun e A' st'=>match e with
  | .normal=>X P T M frz y A' st' K
  | e=>K e A' st'
 | .cond c x y,A,st,K=>evK A c fun v=>match v with
  | .bool b=>A2D b (X P T M frz x A st K) (X P T M frz y A st K)
  | .ubool=>X P T M frz x A st K∧X P T M frz y A st K
  | _=>False
 | .block id c,A,st,K=>X P T M frz c A st fun e A' st'=>match e with
  | .exit j=>(match Nat.beq j id with | true=>K .normal A' st' | false=>K (.exit j) A' st')
  | e=>K e A' st'
 | .loop c,A,st,K=>∃ (keep:List Nat) (I:Nat→KA),(A3l A keep fun us=>∃ m,I m us st)∧∀ m vs st',I m vs st'→B1C A.length fun B=>A8t keep vs B fun A'=>X P T M frz c A' st' fun e A'' st''=>match e with
  | .normal=>A''.length=A.length∧A3l A'' keep fun us=>∃ m',m'<m∧I m' us st''
  | e=>K e A'' st''
 | .exit id,A,st,K=>K (.exit id) A st
 | .ret,A,st,K=>K .ret A st
 | _,_,_,_=>False
theorem B1S {P:Program} {T:H3} {M:H8}:∀ (c:Code) (A:List AV) (st:St) (K K':Exit→KA),(∀ e A st,K e A st→K' e A st)→W P T M (Dr P T M) c A st K→W P T M (Dr P T M) c A st K':=by
 have hops:∀ (ops l:List Oper) (A:List AV) (st:St) (k k':KA),(∀ A st,k A st→k' A st)→A5P P T M ops l A st k→A5P P T M ops l A st k':=by
  intro ops l
  induction l with
  | nil=>intro A st k k' hk h;exact hk _ _ h
  | cons o l ih =>
   intro A st k k' hk h
   unfold A5P at h ⊢
   split at h
   ·exact h.elim
   ·exact ⟨fun e=>N6 (fun v st h=>ih _ _ _ _ hk h) (h.1 e),fun e=>ih _ _ _ _ hk (h.2 e)⟩
 have hrun:∀ (ops:List Oper) (eff ext ord:List Nat) (A:List AV) (st:St) (k k':KA),(∀ A st,k A st→k' A st)→A6P P T M ops eff ext ord A st k→A6P P T M ops eff ext ord A st k':=by
  intro ops eff ext ord
  induction ord with
  | nil=>intro A st k k' hk h;exact hk _ _ h
  | cons i ord ih =>
   intro A st k k' hk h
   unfold A6P at h ⊢
   split at h
   ·exact h
   ·split at h
    ·exact h
    ·refine ⟨fun e=>?_,fun e=>ih _ _ _ _ hk (h.2 e)⟩
     have h:=h.1 e
     split at h
     ·exact N6 (fun v st h=>ih _ _ _ _ hk h) h
     ·obtain ⟨v,h1,h2⟩:=h
      exact ⟨v,h1,ih _ _ _ _ hk h2⟩
 have hgen:∀ (ops:List Oper) (i:Nat) (A:List AV) (st:St) (k k':KA),(∀ A st,k A st→k' A st)→B0O P T M ops i k A st→B0O P T M ops i k' A st:=by
  intro ops i A st k k' hk h
  unfold B0O at h ⊢
  split at h
  ·exact h
  ·split at h
   ·exact h
   ·exact ⟨fun e=>N6 (fun v st h=>hk _ _ h) (h.1 e),fun e=>hk _ _ (h.2 e)⟩
 have hrunT:∀ (ops:List Oper) (t:OT) (A:List AV) (st:St) (k k':KA),(∀ A st,k A st→k' A st)→A4i P T M ops t A st k→A4i P T M ops t A st k':=by
  intro ops t
  induction t with
  | done=>intro A st k k' hk h;exact hk _ _ h
  | gen i t ih=>intro A st k k' hk h;exact hgen _ _ _ _ _ _ (fun A st h=>ih _ _ _ _ hk h) h
  | qui i t ih =>
   intro A st k k' hk h
   unfold A4i B9P at h ⊢
   split at h
   ·exact h
   ·split at h
    ·exact h
    ·refine ⟨fun e=>?_,fun e=>ih _ _ _ _ hk (h.2 e)⟩
     obtain ⟨v,h1,h2⟩:=h.1 e
     exact ⟨v,h1,ih _ _ _ _ hk h2⟩
  | two i j t u iht ihu=>intro A st k k' hk h;exact ⟨hgen _ _ _ _ _ _ (fun A st h=>iht _ _ _ _ hk h) h.1,hgen _ _ _ _ _ _ (fun A st h=>ihu _ _ _ _ hk h) h.2⟩
 intro c
 induction c with
 | skip=>intro A st K K' hK h;exact hK _ _ _ h
 | region id ops draw =>
  intro A st K K' hK h
  unfold W at h ⊢
  cases draw with
  | false=>exact hops _ _ _ _ _ _ (fun A st ⟨A',st',h1,h2⟩=>⟨A',st',h1,hK _ _ _ h2⟩) h
  | true =>
   obtain ⟨eff,ext,ord,h⟩:=h
   refine ⟨eff,ext,ord,?_⟩
   split at h
   ·obtain ⟨t,h1,h2⟩:=h
    exact ⟨t,h1,hrunT _ _ _ _ _ _ (fun A st ⟨A',st',h1,h2⟩=>⟨A',st',h1,hK _ _ _ h2⟩) h2⟩
   ·exact ⟨h.1,hrun _ _ _ _ _ _ _ _ (fun A st ⟨A',st',h1,h2⟩=>⟨A',st',h1,hK _ _ _ h2⟩) h.2⟩
 | seq x y ihx ihy =>
  intro A st K K' hK h
  unfold W at h ⊢
  refine ihx _ _ _ _ (fun e A st h=>?_) h
  cases e<;>first | exact hK _ _ _ h | exact ihy _ _ _ _ hK h
 | cond c x y ihx ihy =>
  intro A st K K' hK h
  unfold W at h ⊢
  split at h
  ·exact ⟨fun e=>ihx _ _ _ _ hK (h.1 e),fun e=>ihy _ _ _ _ hK (h.2 e)⟩
  ·exact ⟨ihx _ _ _ _ hK h.1,ihy _ _ _ _ hK h.2⟩
  ·exact h
 | block id c ih =>
  intro A st K K' hK h
  unfold W at h ⊢
  refine ih _ _ _ _ (fun e A st h=>?_) h
  cases e<;>simp only at h ⊢<;>try exact hK _ _ _ h
  split at h
  ·rename_i e;rw [if_pos e];exact hK _ _ _ h
  ·rename_i e;rw [if_neg e];exact hK _ _ _ h
 | loop c ih =>
  intro A st K K' hK h
  unfold W at h ⊢
  obtain ⟨keep,I,h0,hI⟩:=h
  refine ⟨keep,I,h0,fun m vs st' hi=>ih _ _ _ _ (fun e A st h=>?_) (hI m vs st' hi)⟩
  cases e<;>first | exact hK _ _ _ h | exact h
 | exit id=>intro A st K K' hK h;exact hK _ _ _ h
 | ret=>intro A st K K' hK h;exact hK _ _ _ h
 | rangeFunc _ _ _ _=>intro A st K K' hK h;exact h
 | scope _=>intro A st K K' hK h;exact h
 | label _=>intro A st K K' hK h;exact h
 | goto _=>intro A st K K' hK h;exact h
 | refuse _=>intro A st K K' hK h;exact h
theorem X_W {P:Program} {T:H3} {M:H8} {frz:List Nat}:∀ (c:Code) (A:List AV) (st:St) (K:Exit→KA),X P T M frz c A st K→W P T M (Dr P T M) c A st K:=by
 intro c
 induction c with
 | skip=>intro A st K h;exact h
 | region id ops draw =>
  intro A st K h
  unfold X at h
  unfold W
  cases draw with
  | false=>exact A9b _ _ _ _ h
  | true=>exact C1I h
 | seq x y ihx ihy =>
  intro A st K h
  unfold X at h
  unfold W
  refine B1S _ _ _ _ _ (fun e A st h=>?_) (ihx _ _ _ h)
  cases e<;>first | exact h | exact ihy _ _ _ h
 | cond c x y ihx ihy =>
  intro A st K h
  unfold X at h
  unfold W
  rw [A2R] at h
  split at h
  ·rename_i b hb
   rw [hb]
   obtain ⟨h1,h2⟩:=(V7 _ _ _).1 h
   exact ⟨fun e=>ihx _ _ _ (h1 e),fun e=>ihy _ _ _ (h2 e)⟩
  ·rename_i hb
   rw [hb]
   exact ⟨ihx _ _ _ h.1,ihy _ _ _ h.2⟩
  ·exact h.elim
 | block id c ih =>
  intro A st K h
  unfold X at h
  unfold W
  refine B1S _ _ _ _ _ (fun e A st h=>?_) (ih _ _ _ h)
  cases e<;>simp only at h ⊢<;>try exact h
  split at h
  ·rename_i e;rw [if_pos (Nat.eq_of_beq_eq_true e)];exact h
  ·rename_i e;rw [if_neg (Nat.ne_of_beq_eq_false e)];exact h
 | loop c ih =>
  intro A st K h
  unfold X at h
  unfold W
  obtain ⟨keep,I,h0,hI⟩:=h
  rw [A0L] at h0
  refine ⟨keep,I,h0,fun m vs st' hi=>?_⟩
  have h1:=hI m vs st' hi
  rw [B0f,B0m] at h1
  refine B1S _ _ _ _ _ (fun e A st h=>?_) (ih _ _ _ h1)
  cases e<;>first | exact h | (rw [A0L] at h;exact h)
 | exit id=>intro A st K h;exact h
 | ret=>intro A st K h;exact h
 | rangeFunc _ _ _ _=>intro A st K h;exact h
 | scope _=>intro A st K h;exact h
 | label _=>intro A st K h;exact h
 | goto _=>intro A st K h;exact h
 | refuse _=>intro A st K h;exact h
def C1J (T:H3) (A:List AV) (st:St) (r:ResultVar) (k:AV→Prop):Prop :=
 match r with
 | .tmp t=>A8F A t k
 | .cell t ty=>A8F A t fun p=>B4Q T ty p st (fun v _=>k v)
def B4R (T:H3) (A:List AV) (st:St):List ResultVar→(List AV→Prop)→Prop
 | [],k=>k []
 | r::rs,k=>C1J T A st r fun v=>B4R T A st rs fun vs=>k (v::vs)
theorem A7x {T:H3} {A:List AV} {st:St}:∀ (rs:List ResultVar) (k:List AV→Prop),B4R T A st rs k→A8g T A st rs k
 | [],k,h=>h
 | r::rs,k,h=>by
  simp only [B4R] at h
  simp only [A8g]
  cases r with
  | tmp t=>simp only [C1J,B3m,A3P] at h ⊢;exact A7x rs _ h
  | cell t ty=>simp only [C1J,B3m,A3P] at h ⊢;exact A3G (fun v hv=>A7x rs _ hv) (B0D h)
def C5u (T:H3) (rs:List ResultVar) (post:KK):Exit→KA:=fun e A st=>match e with
 | .normal=>B4R T A st rs fun vs=>post (A8H vs) st
 | .ret=>B4R T A st rs fun vs=>post (A8H vs) st
 | _=>False
def C3D:Nat→(List AV→Prop)→Prop
 | 0,k=>k []
 | n+1,k=>C3D n fun A=>k (.tuple []::A)
theorem B7q:∀ (n:Nat) (k:List AV→Prop),C3D n k=k (List.replicate n (.tuple []))
 | 0,k=>rfl
 | n+1,k=>by rw [C3D,B7q n];rfl
def A6t:List AV→Nat→(List AV→Prop)→Prop
 | [],n,k=>C3D n k
 | v::vs,n,k=>A6t vs (n - 1) fun A=>k (v::A)
theorem A8e:∀ (args:List AV) (n:Nat) (k:List AV→Prop),A6t args n k=k (start args n)
 | [],n,k=>by rw [A6t,B7q];simp [start]
 | v::vs,n,k=>by
  rw [A6t,A8e vs (n - 1)]
  unfold start
  simp only [List.length_cons,List.cons_append]
  rw [show n - 1 - vs.length=n - (vs.length+1) from by omega]
theorem C2d {P:Program} {T:H3} {M:H8} (frz:List Nat) (hG:A6C P T M) (hm:P.follows .mixedOrders=true) {f:FuncId} {fn:Func} {c:Code} {args:List AV} {st:St} {post:KK} {n:Nat} {rs:Array ResultVar}
  (hf : P.funcs[f]? = some fn) (hname : (fn.name == "runtime.NumGoroutine") = false) (hb : fn.body = some c) (hn : fn.ntmps = n) (hr : fn.results = rs)
  (h:A6t args n fun A=>X P T M frz c A st (C5u T rs.toList post)):S P f args st post:=by
 subst hn;subst hr
 rw [A8e] at h
 refine B9o hG (C3M hG hm) hf hname hb (B1S _ _ _ _ _ (fun e A st h=>?_) (X_W _ _ _ _ h))
 cases e<;>first | exact h | (exact A7x _ _ h)
noncomputable def C1M (P:Program) (T:H3) (M:H8) (frz:List Nat) (ops:List Oper) (l:List Oper):List AV→St→KA→Prop :=
 List.rec (motive:=fun _=>List AV→St→KA→Prop) (fun A st k=>k A st)
  (fun o rest ih A st k=>match (match rest with | [o2]=>A4Q frz o o2 | _=>none) with
   | some (p,t,u,y)=>(match rest with | [o2]=>B0E T p t u y o2.dst A st k | _=>False)
   | none=>match (match rest with | [om,o2]=>A7v frz o om o2 | _=>none) with
   | some (m,x,p,t,u,y)=>(match rest with | [_,o2]=>A9c T m x p t u y o2.dst A st k | _=>False)
   | none=>A5m ops o A
    (xOp P T M (inF frz o.dst) o.op A st fun v st'=>A0U A o.dst v fun A'=>ih A' st' k)
    (A0U A o.dst (.tuple []) fun A'=>ih A' st k)) l
theorem B3h {P:Program} {T:H3} {M:H8} {frz:List Nat} {ops:List Oper}:∀ l,C1M P T M frz ops l=B6v P T M frz ops l
 | []=>rfl
 | o::rest=>by
  funext A st k
  conv=>rhs;unfold B6v
  rw [←B3h rest]
  rfl
noncomputable def C8K (P:Program) (T:H3) (M:H8) (frz:List Nat) (ops:List Oper) (eff ext:List Nat) (ord:List Nat):List AV→St→KA→Prop :=
 List.rec (motive:=fun _=>List AV→St→KA→Prop) (fun A st k=>k A st)
  (fun i ord ih A st k=>match ops[i]? with
   | none=>False
   | some o=>match (match ord with | [j]=>(match ops[j]? with | some o2=>(match eff.contains i&&eff.contains j with | true=>A4Q frz o o2 | false=>none) | none=>none) | _=>none) with
    | some (p,t,u,y)=>(match ord with | [j]=>(match ops[j]? with | some o2=>B0E T p t u y o2.dst A st k | none=>False) | _=>False)
    | none=>A5m ops o A
     (match eff.contains i with
      | true=>xOp P T M (inF frz o.dst) o.op A st fun v st'=>A0U A o.dst v fun A'=>ih A' st' k
      | false=>match ext.contains i with
       | true=>∃ v,(∀ st',Ext st st'→xOp P T M (inF frz o.dst) o.op A st' fun v' st''=>v'=v∧st''=st')∧A0U A o.dst v fun A'=>ih A' st k
       | false=>match A5U o.op with
        | true=>xOp P T M (inF frz o.dst) o.op A st fun v _=>A0U A o.dst v fun A'=>ih A' st k
        | false=>∃ v,(xOp P T M (inF frz o.dst) o.op A st fun v' st''=>v'=v∧st''=st)∧A0U A o.dst v fun A'=>ih A' st k)
     (A0U A o.dst (.tuple []) fun A'=>ih A' st k)) ord
theorem B7v {P:Program} {T:H3} {M:H8} {frz:List Nat} {ops:List Oper} {eff ext:List Nat}:∀ l,C8K P T M frz ops eff ext l=B0Z P T M frz ops eff ext l
 | []=>rfl
 | i::ord=>by
  funext A st k
  conv=>rhs;unfold B0Z
  rw [←B7v ord]
  rfl
noncomputable def C4h (P:Program) (T:H3) (M:H8) (frz:List Nat) (ops:List Oper) (t:OT):List AV→St→KA→Prop :=
 OT.rec (motive:=fun _=>List AV→St→KA→Prop) (fun A st k=>k A st)
  (fun i _ ih A st k=>B4P P T M frz ops i (fun A' st'=>ih A' st' k) A st)
  (fun i _ ih A st k=>C3H P T M frz ops i (fun A' st'=>ih A' st' k) A st)
  (fun i j _ _ iht ihu A st k=>B4P P T M frz ops i (fun A' st'=>iht A' st' k) A st∧B4P P T M frz ops j (fun A' st'=>ihu A' st' k) A st) t
theorem A5o {P:Program} {T:H3} {M:H8} {frz:List Nat} {ops:List Oper}:∀ t,C4h P T M frz ops t=A6b P T M frz ops t
 | .done=>rfl
 | .gen i t=>by
  funext A st k
  conv=>rhs;unfold A6b
  rw [←A5o t];rfl
 | .qui i t=>by
  funext A st k
  conv=>rhs;unfold A6b
  rw [←A5o t];rfl
 | .two i j t u=>by
  funext A st k
  conv=>rhs;unfold A6b
  rw [←A5o t,←A5o u];rfl
noncomputable def yDr (P:Program) (T:H3) (M:H8) (frz:List Nat) (ops:List Oper) (A:List AV) (st:St) (k:KA):Prop :=
 ∃ eff ext ord:List Nat,match ord with
  | []=>∃ t:OT,(Region.noSelect ops.toArray&&okT ops.toArray eff t ops.length (Array.replicate ops.length false))=true∧C4h P T M frz ops t A st k
  | _::_=>(Region.noSelect ops.toArray&&A9P ops.toArray eff ext ord (Array.replicate ops.length false)&&(ord.length==ops.length))=true∧C8K P T M frz ops eff ext ord A st k
theorem C1L {P:Program} {T:H3} {M:H8} {frz:List Nat} {ops:List Oper} {A:List AV} {st:St} {k:KA}:yDr P T M frz ops A st k=xDr P T M frz ops A st k:=by
 unfold yDr xDr
 simp only [B7v,A5o]
noncomputable def Y (P:Program) (T:H3) (M:H8) (frz:List Nat) (c:Code):List AV→St→(Exit→KA)→Prop :=
 Code.rec (motive:=fun _=>List AV→St→(Exit→KA)→Prop)
  (fun A st K=>K .normal A st)
  (fun _ ops draw A st K=>match draw with
   | false=>C1M P T M frz ops.toList ops.toList A st (K .normal)
   | true=>yDr P T M frz ops.toList A st (K .normal))
  (fun _ _ x y A st K=>x A st fun e A' st'=>match e with
   | .normal=>y A' st' K
   | e=>K e A' st')
  (fun c _ _ x y A st K=>evK A c fun v=>match v with
   | .bool b=>A2D b (x A st K) (y A st K)
   | .ubool=>x A st K∧y A st K
   | _=>False)
  (fun id _ c A st K=>c A st fun e A' st'=>match e with
   | .exit j=>(match Nat.beq j id with | true=>K .normal A' st' | false=>K (.exit j) A' st')
   | e=>K e A' st')
  (fun _ c A st K=>∃ (keep:List Nat) (I:Nat→KA),(A3l A keep fun us=>∃ m,I m us st)∧∀ m vs st',I m vs st'→B1C A.length fun B=>A8t keep vs B fun A'=>c A' st' fun e A'' st''=>match e with
   | .normal=>A''.length=A.length∧A3l A'' keep fun us=>∃ m',m'<m∧I m' us st''
   | e=>K e A'' st'')
  (fun _ _ _ _ _ _ A st K=>False)
  (fun id A st K=>K (.exit id) A st)
  (fun _ _ A st K=>False)
  (fun _ A st K=>False)
  (fun _ A st K=>False)
  (fun A st K=>K .ret A st)
  (fun _ A st K=>False) c
theorem B4V {P:Program} {T:H3} {M:H8} {frz:List Nat}:∀ c,Y P T M frz c=X P T M frz c
 | .skip=>rfl
 | .region _ ops draw=>by
  funext A st K
  conv=>rhs;unfold X
  cases draw with
  | false=>show C1M _ _ _ _ _ _ _ _ _=_;rw [B3h]
  | true=>show yDr _ _ _ _ _ _ _ _=_;rw [C1L]
 | .seq x y=>by
  funext A st K
  conv=>rhs;unfold X
  rw [←B4V x,←B4V y]
  rfl
 | .cond c x y=>by
  funext A st K
  conv=>rhs;unfold X
  rw [←B4V x,←B4V y]
  rfl
 | .block id c=>by
  funext A st K
  conv=>rhs;unfold X
  rw [←B4V c]
  rfl
 | .loop c=>by
  funext A st K
  conv=>rhs;unfold X
  rw [←B4V c]
  rfl
 | .exit id=>rfl
 | .ret=>rfl
 | .rangeFunc _ _ _ _=>rfl
 | .scope _=>rfl
 | .label _=>rfl
 | .goto _=>rfl
 | .refuse _=>rfl
theorem A8 {P:Program} {T:H3} {M:H8} (frz:List Nat) (hG:A6C P T M) (hm:P.follows .mixedOrders=true) {f:FuncId} {fn:Func} {c:Code} {args:List AV} {st:St} {post:KK} {n:Nat} {rs:Array ResultVar}
  (hf : P.funcs[f]? = some fn) (hname : (fn.name == "runtime.NumGoroutine") = false) (hb : fn.body = some c) (hn : fn.ntmps = n) (hr : fn.results = rs)
  (h:A6t args n fun A=>Y P T M frz c A st (C5u T rs.toList post)):S P f args st post:=by
 rw [B4V] at h
 exact C2d frz hG hm hf hname hb hn hr h
theorem A0 (st:St) (b:Nat) (x:R3):upd st b x b=some x:=by simp [upd]
theorem A4 {st:St} {b c:Nat} {x:R3} (h:c≠b):upd st b x c=st c:=by simp [upd,h]
theorem B4M {st:St} {b c:Nat} {x:R3} (h:upd st b x c=none):c≠b∧st c=none:=by
 unfold upd at h
 split at h
 ·cases h
 ·rename_i e;exact ⟨e,h⟩
theorem A5L (st:St) (b:Nat) (x y:R3):upd (upd st b x) b y=upd st b y:=funext fun c=>by unfold upd;split<;>rfl
theorem A2B {st:St} {b:Nat} (h:st b=none) (x:R3):del (upd st b x) b=st:=funext fun c=>by
 unfold del upd
 split
 ·rename_i e;rw [e,h]
 ·rfl
theorem call {P:Program} {f:FuncId} {args:List AV} {st:St} {post k:KK} (h:S P f args st post) (hk:∀ v st',post v st'→k v st'):A1C P f args st k:=by
 refine ⟨?_⟩;unfold A2f;exact ⟨args,st,B0.refl _ _,h.mono hk⟩
theorem A7 {P:Program} {f:FuncId} {args:List AV} {st:St} {v:AV} {k:KK} (h:S P f args st fun v' st'=>v'=v∧st'=st) (hk:k v st):A1C P f args st k :=
 call h fun v' st' ⟨e1,e2⟩=>by rw [e1,e2];exact hk
theorem F3 {P:Program} {f:FuncId} {args args':List AV} {st st':St} {k:KK} (hs:B0 args st args' st') (h:A1C P f args' st' k):A1C P f args st k:=by
 refine ⟨?_⟩
 have h:=h.out
 unfold A2f at *
 obtain ⟨a,s,h1,h2⟩:=h
 exact ⟨a,s,hs.trans h1,h2⟩
end Go.Ab
