/- Part 12 of the proof: contracts of the functions that the law reaches -/
import Derived.Test.YtbajhapmlfbelaaGreatDe11
set_option linter.unusedVariables false
set_option linter.unusedSimpArgs false
namespace Go.Ab
open Go
def A7G:List AV→Nat→(AV→Prop)→Prop
 | [],_,k=>k .junk
 | a::_,0,k=>k a
 | _::xs,n+1,k=>A7G xs n k
def B2R:List AV→Nat→AV→(List AV→Prop)→Prop
 | [],_,_,k=>k []
 | _::xs,0,v,k=>k (v::xs)
 | a::xs,n+1,v,k=>B2R xs n v fun xs'=>k (a::xs')
def A0V (A:List AV) (d:Option Tmp) (v:AV) (k:List AV→Prop):Prop:=match d with | some i=>B2R A i v k | none=>k A
theorem A2J:∀ (A:List AV) (i:Nat) (k:AV→Prop),A7G A i k=k (A.getD i .junk)
 | [],_,k=>by simp [A7G]
 | a::xs,0,k=>by simp [A7G]
 | a::xs,n+1,k=>by rw [A7G,A2J xs n k];simp
theorem A7l:∀ (A:List AV) (i:Nat) (v:AV) (k:List AV→Prop),B2R A i v k=k (A.set i v)
 | [],_,v,k=>by simp [B2R]
 | a::xs,0,v,k=>by simp [B2R]
 | a::xs,n+1,v,k=>by rw [B2R,A7l xs n v];simp
theorem Q8 (A:List AV) (d:Option Tmp) (v:AV) (k:List AV→Prop):A0V A d v k=k (I5 A d v):=by
 cases d with
 | none=>rfl
 | some i=>exact A7l A i v k
def C5q (v:Value) (k:AV→Prop):Prop :=
 match v with
 | .bool b=>k (.bool b)
 | .int kk n=>k (.int kk n)
 | .string s=>k (.str s)
 | .pointer a=>(match a with | none=>k .nilp | some _=>k .junk)
 | .slice a l c=>(match a with | none=>(match l,c with | 0,0=>k .emp | _,_=>k .junk) | some _=>k .junk)
 | .nilFunc=>k .nilf
 | .nilIface=>k .nili
 | v=>k (K6 v)
theorem C2z (v:Value) (k:AV→Prop):C5q v k=k (K6 v):=by
 cases v with
 | pointer a=>cases a<;>rfl
 | slice a l c=>cases a with
  | none=>cases l<;>cases c<;>rfl
  | some a=>rfl
 | _=>rfl
def evK (A:List AV) (x:Operand) (k:AV→Prop):Prop :=
 match x with
 | .tmp t=>A7G A t k
 | .const v=>C5q v k
 | .global _=>k .junk
 | .func f=>k (.fn (.func f) [] [])
theorem A3L (A:List AV) (x:Operand) (k:AV→Prop):evK A x k=k (ev A x):=by
 cases x with
 | tmp t=>exact A2J A t k
 | const v=>exact C2z v k
 | _=>rfl
def B7W (A:List AV):List Operand→(List AV→Prop)→Prop
 | [],k=>k []
 | x::xs,k=>evK A x fun v=>B7W A xs fun vs=>k (v::vs)
theorem B6U (A:List AV):∀ (xs:List Operand) (k:List AV→Prop),B7W A xs k=k (xs.map (ev A))
 | [],k=>rfl
 | x::xs,k=>by simp only [B7W,A3L,B6U A xs,List.map_cons]
def B7V (A:List AV):List (Nat×Operand)→(List (Nat×AV)→Prop)→Prop
 | [],k=>k []
 | p::ps,k=>evK A p.2 fun v=>B7V A ps fun vs=>k ((p.1,v)::vs)
theorem A8E (A:List AV):∀ (ps:List (Nat×Operand)) (k:List (Nat×AV)→Prop),B7V A ps k=k (ps.map fun p=>(p.1,ev A p.2))
 | [],k=>rfl
 | p::ps,k=>by simp only [B7V,A3L,A8E A ps,List.map_cons]
def C2E (A:List AV) (x:Option Operand) (k:Option AV→Prop):Prop:=match x with | none=>k none | some y=>evK A y fun v=>k (some v)
theorem C2F (A:List AV) (x:Option Operand) (k:Option AV→Prop):C2E A x k=k (x.map (ev A)):=by
 cases x with
 | none=>rfl
 | some y=>exact A3L A y _
def A4d (b:Bool) (x y:Prop):Prop:=match b with | true=>x | false=>y
theorem Z0 (b:Bool) (x y:Prop):A4d b x y↔(b=true→x)∧(b=false→y):=by cases b<;>simp [A4d]
theorem C4 {b:Bool} {x y:Prop} (h1:b=true→x) (h2:b=false→y):A4d b x y:=by cases b;exact h2 rfl;exact h1 rfl
structure A1B (P:Program) (f:FuncId) (args:List AV) (st:St) (k:KK):Prop where
 out:A2i P f args st k
def B9z:List AV→List AV→(List AV→Prop)→Prop
 | [],b,k=>k b
 | v::a,b,k=>B9z a b fun l=>k (v::l)
theorem A3F:∀ (a b:List AV) (k:List AV→Prop),B9z a b k=k (a++b)
 | [],b,k=>rfl
 | v::a,b,k=>by rw [B9z,A3F a b];rfl
def C0m:List AV→Nat→(Nat→Prop)→Prop
 | [],n,k=>k n
 | _::l,n,k=>C0m l (n+1) k
theorem B7c:∀ (l:List AV) (n:Nat) (k:Nat→Prop),C0m l n k=k (n+l.length)
 | [],n,k=>by simp [C0m]
 | a::l,n,k=>by rw [C0m,B7c l];simp [Nat.add_assoc,Nat.add_comm 1]
def B4f:List AV→List AV→(List AV→Prop)→Prop
 | cs,[],k=>k cs
 | _::cs,v::new,k=>B4f cs new fun r=>k (v::r)
 | [],_::_,k=>k []
def A7o:List AV→Nat→List AV→(List AV→Prop)→Prop
 | cs,0,new,k=>B4f cs new k
 | a::cs,n+1,new,k=>A7o cs n new fun r=>k (a::r)
 | [],_+1,_,k=>k []
theorem B4g:∀ (cs new:List AV) (k:List AV→Prop),new.length≤cs.length→B4f cs new k=k (new++cs.drop new.length)
 | cs,[],k,_=>by simp [B4f]
 | c::cs,v::new,k,h=>by rw [B4f,B4g cs new _ (by simpa using h)];simp
 | [],v::new,k,h=>by simp at h
theorem B0l:∀ (cs:List AV) (n:Nat) (new:List AV) (k:List AV→Prop),n+new.length≤cs.length→A7o cs n new k=k (cs.take n++new++cs.drop (n+new.length))
 | cs,0,new,k,h=>by rw [A7o,B4g cs new k (by omega)];simp
 | a::cs,n+1,new,k,h=>by
  rw [A7o,B0l cs n new _ (by simp at h;omega)]
  simp [show n+1+new.length=(n+new.length)+1 from by omega]
 | [],n+1,new,k,h=>by simp at h
def B1H (place:Nat→Option (Nat×Nat)):List (Nat×AV)→List AV→(List AV→Prop)→Prop
 | [],cells,k=>k cells
 | (i,v)::rest,cells,k=>match place i with
  | none=>False
  | some (off,size)=>match Nat.beq (cellsOf v).length size&&Nat.ble (off+size) cells.length&&(cellsOf v).all AV.one&&Nat.blt 0 size with
   | true=>A7o cells off (cellsOf v) fun cells'=>B1H place rest cells' k
   | false=>False
theorem A7u {place:Nat→Option (Nat×Nat)}:∀ (ps:List (Nat×AV)) (cells:List AV) (k:List AV→Prop),B1H place ps cells k→∃ out,A4b place cells ps=some out∧k out
 | [],cells,k,h=>⟨cells,rfl,h⟩
 | (i,v)::ps,cells,k,h=>by
  unfold B1H at h
  unfold A4b
  split at h
  ·exact h.elim
  ·rename_i off size hp
   rw [hp]
   simp only
   split at h
   ·rename_i hb
    simp only [Bool.and_eq_true,Nat.beq_eq,Nat.ble_eq,Nat.blt_eq] at hb
    obtain ⟨⟨⟨h1,h2⟩,h3⟩,h4⟩:=hb
    rw [B0l _ _ _ _ (by omega)] at h
    rw [if_neg (by simp only [not_or,Decidable.not_not,Bool.not_eq_false];exact ⟨h1,by omega,h3,by omega⟩)]
    rw [h1] at h
    exact A7u ps _ k h
   ·exact h.elim
def B6A (T:G9) (t:TypeId) (ps:List (Nat×AV)) (k:AV→Prop):Prop :=
 match T t with
 | none=>False
 | some r=>match r.desc with
  | .struct fs=>match places T fs.toList with
   | none=>False
   | some pl=>B1H (fun i=>pl[i]?) ps (cellsOf (K6 r.zero)) fun out=>k (.agg out)
  | .array n el=>match T el with
   | none=>False
   | some q=>B1H (fun i=>some (i * q.size,q.size)) ps (cellsOf (K6 r.zero)) fun out=>k (.agg out)
  | _=>False
theorem B9a {T:G9} {t:TypeId} {ps:List (Nat×AV)} {k:AV→Prop} (h:B6A T t ps k):A5Y T t ps k:=by
 unfold B6A at h
 unfold A5Y
 split at h
 ·exact h.elim
 ·rename_i r hr
  rw [hr]
  simp only
  split at h
  ·rename_i fs hd
   rw [hd]
   simp only
   split at h
   ·exact h.elim
   ·rename_i pl hp
    rw [hp]
    simp only
    obtain ⟨out,h1,h2⟩:=A7u _ _ _ h
    rw [h1];exact h2
  ·rename_i n el hd
   rw [hd]
   simp only
   split at h
   ·exact h.elim
   ·rename_i q hq
    rw [hq]
    simp only
    obtain ⟨out,h1,h2⟩:=A7u _ _ _ h
    rw [h1];exact h2
  ·exact h.elim
def A5b:Nat→List AV→(List AV→List AV→Prop)→Prop
 | 0,l,k=>k [] l
 | n+1,v::l,k=>A5b n l fun a b=>k (v::a) b
 | _+1,[],k=>k [] []
theorem A7V:∀ (n:Nat) (l:List AV) (k:List AV→List AV→Prop),A5b n l k=k (l.take n) (l.drop n)
 | 0,l,k=>by simp [A5b]
 | n+1,v::l,k=>by rw [A5b,A7V n l];simp
 | n+1,[],k=>by simp [A5b]
def A9l (agg:Bool) (e:Nat):Nat→List AV→(List AV→Prop)→Prop
 | 0,_,k=>k []
 | n+1,out,k=>match agg with
  | true=>A5b e out fun a b=>A9l agg e n b fun r=>k (.agg a::r)
  | false=>match out with
   | v::b=>A9l agg e n b fun r=>k (v::r)
   | []=>False
theorem B3Q (agg:Bool) (e n:Nat) (out:List AV) (he:agg=false→e=1):A0o agg e (n+1) out=(if agg then .agg (out.take e) else out.getD 0 .junk)::A0o agg e n (out.drop e):=by
 unfold A0o
 rw [List.range_succ_eq_map,List.map_cons,List.map_map]
 congr 1
 ·cases agg<;>simp
 ·refine List.map_congr_left fun i _=>?_
  cases agg with
  | true =>
   simp only [Function.comp,if_true]
   rw [List.drop_drop,show (i+1) * e=e+i * e from by rw [Nat.add_mul];omega]
  | false =>
   have:=he rfl
   subst this
   simp
theorem A7H {agg:Bool} {e:Nat} (he:agg=false→e=1):∀ (n:Nat) (out:List AV) (k:List AV→Prop),A9l agg e n out k→k (A0o agg e n out)
 | 0,out,k,h=>h
 | n+1,out,k,h=>by
  unfold A9l at h
  rw [B3Q agg e n out he]
  cases agg with
  | true =>
   simp only [A7V] at h
   exact A7H he n _ _ h
  | false =>
   simp only at h
   have:=he rfl
   subst this
   split at h
   ·rename_i v b;exact A7H he n _ _ h
   ·exact h.elim
def C3r (fz:Bool) (ty:TypeId) (v:AV) (st:St) (k:KK):Prop :=
 match Nat.blt 0 (cellsOf v).length&&(cellsOf v).all AV.one with
 | true=>(match fz with
  | true=>k (.fptr v 0) st
  | false=>C0m (cellsOf v) 0 fun n=>∀ b,st b=none→k (.optr n b 0 0) (upd st b ⟨ty,n,1,fun _=>v⟩))
 | false=>False
theorem B7C {fz:Bool} {ty:TypeId} {v:AV} {st:St} {k:KK} (h:C3r fz ty v st k):B5g ty v st k:=by
 unfold C3r at h
 split at h
 ·rename_i hb
  simp only [Bool.and_eq_true,Nat.blt_eq] at hb
  cases fz with
  | true=>exact ⟨hb.1,hb.2,.inl h⟩
  | false =>
   simp only [B7c,Nat.zero_add] at h
   exact ⟨hb.1,hb.2,.inr h⟩
 ·exact h.elim
def C4X (fz:Bool) (T:G9) (t:TypeId) (len:Nat) (ps:List (Nat×AV)) (st:St) (k:KK):Prop :=
 match T t with
 | none=>False
 | some r=>match r.desc with
  | .slice el=>match T el with
   | none=>False
   | some q=>match Nat.blt 0 (len * q.size)&&Nat.ble (len * q.size) 16777216&&Nat.beq q.zero.cells.size q.size&&(q.agg||Nat.beq q.size 1) with
    | false=>False
    | true=>B1H (fun i=>some (i * q.size,q.size)) ps ((List.range (len * q.size)).map fun i=>(cellsOf (K6 q.zero)).getD (i % q.size) .junk) fun out=>match out.all AV.one with
    | false=>False
    | true=>A9l q.agg q.size len out fun els=>match fz with
     | false=>k (.arr q.size len (fun i=>els.getD i .junk)) st
     | true=>∀ b,st b=none→k (.own q.size b 0 len) (upd st b ⟨el,q.size,len,fun i=>els.getD i .junk⟩)
  | _=>False
theorem C3u {fz:Bool} {T:G9} {t:TypeId} {len:Nat} {ps:List (Nat×AV)} {st:St} {k:KK} (h:C4X fz T t len ps st k):A0x T t len ps st k:=by
 unfold C4X at h
 unfold A0x
 split at h
 ·exact h.elim
 ·rename_i r hr
  rw [hr]
  simp only
  split at h
  ·rename_i el hd
   rw [hd]
   simp only
   split at h
   ·exact h.elim
   ·rename_i q hq
    rw [hq]
    split at h
    ·exact h.elim
    rename_i hb
    simp only [Bool.and_eq_true,Nat.blt_eq,Nat.ble_eq,Nat.beq_eq,Bool.or_eq_true] at hb
    obtain ⟨⟨⟨h1,h2⟩,h3⟩,h4'⟩:=hb
    have h4:q.agg=false→q.size=1:=fun e=>h4'.resolve_left (by simp [e])
    refine ⟨h1,h2,h3,h4,?_⟩
    obtain ⟨out,ho,h⟩:=A7u _ _ _ h
    rw [ho]
    split at h
    ·exact h.elim
    rename_i hone
    have h:=A7H h4 _ _ _ h
    refine ⟨hone,?_⟩
    cases fz with
    | false=>exact .inl h
    | true=>exact .inr h
  ·exact h.elim
def B1J (r:D3) (cs:List AV) (o:Nat) (k:AV→Prop):Prop :=
 match r.agg with
 | true=>(match Nat.ble (o+r.size) cs.length with
  | true=>A5b o cs fun _ b=>A5b r.size b fun c _=>k (.agg c)
  | false=>False)
 | false=>A7G cs o fun y=>match y with | .junk=>False | y=>k y
theorem B0x {r:D3} {cs:List AV} {o:Nat} {k:AV→Prop} (h:B1J r cs o k):pick r cs o k:=by
 unfold B1J at h
 unfold pick
 split at h
 ·rename_i e
  rw [e]
  split at h
  ·rename_i hb
   simp only [A7V] at h
   exact ⟨by simpa using hb,h⟩
  ·exact h.elim
 ·rename_i e
  rw [e]
  rw [A2J] at h
  simp only
  rw [List.getD_eq_getElem?_getD] at h
  cases hy:cs[o]? with
  | none=>rw [hy] at h;exact h.elim
  | some y=>rw [hy] at h;simp only [Option.getD_some] at h;split at h;exact h.elim;exact h
structure C4W (T:G9) (t:TypeId) (e b i o:Nat) (st:St) (k:KK):Prop where
 out:A2j T t (.optr e b i o) st k
def B5c (T:G9) (t:TypeId) (v:AV) (st:St) (k:KK):Prop :=
 match v with
 | .fptr v o=>(match T t with | some r=>B1J r (cellsOf v) o (fun y=>k y st) | none=>False)
 | .optr e b i o=>C4W T t e b i o st k
 | _=>False
theorem B0v {T:G9} {t:TypeId} {v:AV} {st:St} {k:KK} (h:B5c T t v st k):A2j T t v st k:=by
 unfold B5c at h
 split at h
 ·unfold A2j
  split at h
  ·rename_i hr;rw [hr];exact B0x h
  ·exact h.elim
 ·exact h.out
 ·exact h.elim
structure C3v (T:G9) (t:TypeId) (e b i o:Nat) (v:AV) (st:St) (k:KK):Prop where
 out:(match T t with | some r=>0<r.size | none=>False)∧A6b T t (.optr e b i o) v st k
def C1E (T:G9) (t:TypeId) (p v:AV) (st:St) (k:KK):Prop:=match p with | .optr e b i o=>C3v T t e b i o v st k | _=>False
structure A5h (T:G9) (t:TypeId) (s x:AV) (st:St) (k:KK):Prop where
 out:A3C T t s x st k
structure xMk (T:G9) (t:TypeId) (l c:AV) (st:St) (k:KK):Prop where
 out:A8U T t l c st k
def B0u (T:G9) (b:Builtin) (args:List AV) (ts:List TypeId) (st:St) (k:KK):Prop :=
 match b with
 | .append=>match args,ts with
  | [s,x],[t,u]=>(match Nat.beq t u with | true=>A5h T t s x st k | false=>False)
  | _,_=>False
 | b=>A1r T b args ts st k
theorem B4Z {T:G9} {b:Builtin} {args:List AV} {ts:List TypeId} {st:St} {k:KK} (h:B0u T b args ts st k):A1r T b args ts st k:=by
 unfold B0u at h
 split at h
 ·unfold A1r
  split at h
  ·split at h
   ·rename_i e;exact ⟨Nat.eq_of_beq_eq_true e,h.out⟩
   ·exact h.elim
  ·exact h.elim
 ·exact h
def B3i (P:Program) (T:G9) (M:H8) (r:AV) (name:String) (args:List AV) (st:St) (k:KK):Prop :=
 match r with
 | .iface t v=>match M t name with
  | some (f,none)=>A1B P f (v::args) st k
  | some (f,some el)=>B5c T el v st (fun u st'=>A1B P f (u::args) st' k)
  | none=>False
 | _=>False
theorem B6D {P:Program} {T:G9} {M:H8} {r:AV} {name:String} {args:List AV} {st:St} {k:KK} (h:B3i P T M r name args st k):A5o P T M r name args st k:=by
 unfold B3i at h
 unfold A5o
 split at h
 ·rename_i t v
  simp only
  split at h
  ·rename_i f hf;rw [hf];exact h.out
  ·rename_i f el hf;rw [hf];exact A3D (k:=fun u st'=>A1B P f (u::args) st' k) (fun u hu=>hu.out) (B0v h)
  ·exact h.elim
 ·exact h.elim
def C4U (T:G9) (op:BinOp) (t:TypeId) (x y:AV) (k:AV→Prop):Prop :=
 match x,y,op with
 | .int kk a,.int _ b,.shl=>A4d (decide (b<0)) False (k (.int kk (kk.wrap (a * 2 ^ (min b.toNat kk.bits)))))
 | .int kk a,.int _ b,.shr=>A4d (decide (b<0)) False (k (.int kk (a.fdiv (2 ^ (min b.toNat kk.bits)))))
 | .int kk a,.int k' b,.quo=>match decide (kk=k') with | true=>A4d (decide (b=0)) False (k (.int kk (kk.wrap (a.tdiv b)))) | false=>False
 | .int kk a,.int k' b,.rem=>match decide (kk=k') with | true=>A4d (decide (b=0)) False (k (.int kk (a.tmod b))) | false=>False
 | x,y,op=>match B1P T op t x y with | some z=>k z | none=>False
theorem C3p {T:G9} {op:BinOp} {t:TypeId} {x y:AV} {k:AV→Prop} (h:C4U T op t x y k):match B1P T op t x y with | some z=>k z | none=>False:=by
 unfold C4U at h
 split at h
 ·obtain ⟨h1,h2⟩:=(Z0 _ _ _).1 h
  rename_i kk a k' b
  by_cases hb:b<0
  ·exact (h1 (decide_eq_true hb)).elim
  ·simp only [B1P,A7w,if_neg hb];exact h2 (decide_eq_false hb)
 ·obtain ⟨h1,h2⟩:=(Z0 _ _ _).1 h
  rename_i kk a k' b
  by_cases hb:b<0
  ·exact (h1 (decide_eq_true hb)).elim
  ·simp only [B1P,A7w,if_neg hb];exact h2 (decide_eq_false hb)
 ·rename_i kk a k' b
  by_cases hk:kk=k'
  ·rw [decide_eq_true hk] at h
   obtain ⟨h1,h2⟩:=(Z0 _ _ _).1 h
   by_cases hb:b=0
   ·exact (h1 (decide_eq_true hb)).elim
   ·simp only [B1P,C1V,if_pos hk,if_neg hb];exact h2 (decide_eq_false hb)
  ·rw [decide_eq_false hk] at h;exact h.elim
 ·rename_i kk a k' b
  by_cases hk:kk=k'
  ·rw [decide_eq_true hk] at h
   obtain ⟨h1,h2⟩:=(Z0 _ _ _).1 h
   by_cases hb:b=0
   ·exact (h1 (decide_eq_true hb)).elim
   ·simp only [B1P,C1V,if_pos hk,if_neg hb];exact h2 (decide_eq_false hb)
  ·rw [decide_eq_false hk] at h;exact h.elim
 ·exact h
def C1A (T:G9) (op:BinOp) (t:TypeId) (y:Operand) (vx vy:AV) (k:AV→Prop):Prop :=
 match C1W T op t y vx with
 | some z=>k z
 | none=>C4U T op t vx vy k
theorem C1B {T:G9} {op:BinOp} {t:TypeId} {y:Operand} {vx vy:AV} {k:AV→Prop} (h:C1A T op t y vx vy k):match B3q T op t y vx vy with | some z=>k z | none=>False:=by
 unfold C1A at h
 unfold B3q
 split at h
 ·rename_i z hz;rw [hz];exact h
 ·rename_i hz;rw [hz];exact C3p h
structure C4V (s:ByteArray) (j:Int) (k:AV→Prop):Prop where
 out:∃ h:0≤j∧j.toNat<s.size,k (.int .u8 ((s[j.toNat]'h.2).toNat:Int))
def B6C (T:G9) (t:TypeId) (v i:AV) (k:AV→Prop):Prop :=
 match T t with
 | none=>False
 | some r=>match r.desc,v,i with
  | .string,.str s,.int _ j=>C4V s j k
  | .array n el,.agg cs,.int _ j=>match T el with
   | none=>False
   | some q=>(q.agg=false∧j.toNat * q.size<cs.length∧0≤j∧j<n)∧A7G cs (j.toNat * q.size) k
  | _,_,_=>False
theorem B9c {T:G9} {t:TypeId} {v i:AV} {k:AV→Prop} (h:B6C T t v i k):A6a T t v i k:=by
 unfold B6C at h
 unfold A6a
 split at h
 ·exact h.elim
 rename_i r hr
 rw [hr]
 simp only
 split at h
 ·rename_i s kk j hd
  rw [hd]
  exact h.out
 ·rename_i n el cs kk j hd
  rw [hd]
  split at h
  ·exact h.elim
  ·rename_i q hq
   rw [A2J] at h
   simp only [hq]
   exact h
 ·exact h.elim
def C2D (n:Nat) (k:Nat→Prop):Prop :=
 match n with
 | 0=>k 0 | 1=>k 1 | 2=>k 2 | 3=>k 3 | 4=>k 4 | 5=>k 5 | 6=>k 6 | 7=>k 7 | 8=>k 8 | 9=>k 9 | 10=>k 10 | 11=>k 11 | 12=>k 12 | 13=>k 13 | 14=>k 14 | 15=>k 15 | 16=>k 16 | 17=>k 17 | 18=>k 18 | 19=>k 19 | 20=>k 20 | n=>k n
theorem B7g (n:Nat) (k:Nat→Prop):C2D n k=k n:=by unfold C2D;split<;>rfl
def A6w (T:G9) (s:TypeId) (p:AV) (f:Nat) (k:AV→Prop):Prop :=
 match T s with
 | none=>False
 | some r=>match r.desc with
  | .struct fs=>match fs[f]? with
   | none=>False
   | some fl=>match T fl.type with
    | none=>False
    | some q=>match Nat.blt 0 q.size with
     | true=>(match p with
      | .fptr v o=>C2D (o+fl.offset) fun o'=>k (.fptr v o')
      | .optr e b i o=>C2D (o+fl.offset) fun o'=>k (.optr e b i o')
      | _=>False)
     | false=>False
  | _=>False
theorem B0T {T:G9} {s:TypeId} {p:AV} {f:Nat} {k:AV→Prop} (h:A6w T s p f k):A0n T s p f k:=by
 unfold A6w at h
 unfold A0n
 split at h
 ·exact h.elim
 rename_i r hr
 rw [hr]
 simp only
 split at h
 case h_2=>exact h.elim
 rename_i fs hd
 rw [hd]
 simp only
 split at h
 ·exact h.elim
 rename_i fl hf
 rw [hf]
 simp only
 split at h
 ·exact h.elim
 rename_i q hq
 rw [hq]
 simp only
 split at h
 ·rename_i hb
  refine ⟨by simpa using hb,?_⟩
  split at h
  ·rw [B7g] at h;exact h
  ·rw [B7g] at h;exact h
  ·exact h.elim
 ·exact h.elim
def B6B (T:G9) (s:TypeId) (v:AV) (f:Nat) (k:AV→Prop):Prop :=
 match T s with
 | none=>False
 | some r=>match r.desc with
  | .struct fs=>match fs[f]? with
   | none=>False
   | some fl=>match T fl.type with
    | none=>False
    | some q=>match v with
     | .agg cs=>B1J q cs fl.offset k
     | _=>False
  | _=>False
theorem B9b {T:G9} {s:TypeId} {p:AV} {f:Nat} {k:AV→Prop} (h:B6B T s p f k):A5Z T s p f k:=by
 unfold B6B at h
 unfold A5Z
 split at h
 ·exact h.elim
 rename_i r hr
 rw [hr]
 simp only
 split at h
 case h_2=>exact h.elim
 rename_i fs hd
 rw [hd]
 simp only
 split at h
 ·exact h.elim
 rename_i fl hf
 rw [hf]
 simp only
 split at h
 ·exact h.elim
 rename_i q hq
 rw [hq]
 simp only
 split at h
 ·exact B0x h
 ·exact h.elim
def xOp (P:Program) (T:G9) (M:H8) (fz:Bool) (op:Op) (A:List AV) (st:St) (k:KK):Prop :=
 match op with
 | .move x=>evK A x fun v=>k v st
 | .assign x=>evK A x fun v=>k v st
 | .pick c x y=>evK A c fun v=>match v with | .bool b=>A4d b (evK A x fun u=>k u st) (evK A y fun u=>k u st) | _=>False
 | .binOp op t x y _=>evK A x fun v=>evK A y fun u=>C1A T op t y v u (fun z=>k z st)
 | .unOp op _ x=>evK A x fun v=>match aUn op v with | some z=>k z st | none=>False
 | .load t x=>evK A x fun v=>B5c T t v st k
 | .store t x y=>evK A x fun v=>evK A y fun u=>C1E T t v u st k
 | .alloc t=>match T t with | some r=>C3r fz t (K6 r.zero) st k | none=>False
 | .box t x=>evK A x fun v=>C3r fz t v st k
 | .build t ps=>B7V A ps.toList fun vs=>B6A T t vs (fun v=>k v st)
 | .buildSlice t n ps=>match n with
  | 0=>B7V A ps.toList fun vs=>B3t T t vs st k
  | m+1=>B7V A ps.toList fun vs=>C4X fz T t (m+1) vs st k
 | .nilCheck x=>evK A x fun v=>match A5p v with | true=>k v st | false=>False
 | .convert s d x=>evK A x fun v=>match A6E T s d v with | some z=>k z st | none=>False
 | .makeInterface t x=>evK A x fun v=>match B2n T t with | true=>k (.iface t v) st | false=>False
 | .makeFunc fn fs cs=>B7W A fs.toList fun us=>B7W A cs.toList fun vs=>k (.fn fn us vs) st
 | .makeSlice t l c=>evK A l fun v=>evK A c fun u=>xMk T t v u st k
 | .slice t x lo hi mx=>evK A x fun v=>C2E A lo fun l=>C2E A hi fun h=>C2E A mx fun m=>A7x T t v l h m (fun v=>k v st)
 | .fieldAddr s x f=>evK A x fun v=>A6w T s v f (fun v=>k v st)
 | .field s x f=>evK A x fun v=>B6B T s v f (fun v=>k v st)
 | .indexAddr t x i=>evK A x fun v=>evK A i fun u=>A1b T t v u (fun v=>k v st)
 | .index t x i=>evK A x fun v=>evK A i fun u=>B6C T t v u (fun v=>k v st)
 | .typeAssert x _ t ok=>evK A x fun v=>match A8B T v t ok with | some z=>k z st | none=>False
 | .extract x i=>evK A x fun v=>A3g v i (fun v=>k v st)
 | .call c=>B7W A c.args.toList fun args=>match c.callee with
  | .builtin b=>B0u T b args c.argTypes.toList st k
  | .invoke r name=>evK A r fun v=>B3i P T M v name args st k
  | .value f=>evK A f fun v=>match v with
   | .fn g fs cs=>(match g with | .func n=>B9z fs args fun l=>B9z l cs fun l=>A1B P n l st k | _=>False)
   | _=>False
 | _=>False
theorem A2C {P:Program} {T:G9} {M:H8} {fz:Bool} {o:Oper} {A:List AV} {st:St} {k:KK} (h:xOp P T M fz o.op A st k):aOp P T M o A st k:=by
 obtain ⟨dst,op,type,pos,after,guard⟩:=o
 unfold aOp
 cases op<;>simp only [xOp,A3L,B6U,A8E,C2F,A3F] at h ⊢<;>try exact h
 case alloc t =>
  split at h
  ·rename_i r hr;rw [hr];exact B7C h
  ·exact h.elim
 case box t x=>exact B7C h
 case fieldAddr t x f=>exact B0T h
 case field t x f=>exact B9b h
 case binOp op t x y _=>exact C1B h
 case index t x f=>exact B9c h
 case load t x=>exact B0v h
 case store t x y =>
  unfold C1E at h
  split at h
  ·rename_i hv;rw [hv];exact h.out
  ·exact h.elim
 case makeSlice t l c=>exact h.out
 case build t ps=>exact B9a h
 case buildSlice t n ps =>
  cases n with
  | zero=>simp only [A8E] at h;exact h
  | succ m=>simp only [A8E] at h;exact C3u h
 case pick c x y =>
  split at h
  ·rename_i b hb
   simp only [hb]
   exact (Z0 _ _ _).1 h
  ·exact h.elim
 case nilCheck x =>
  split at h
  ·rename_i hb;exact ⟨hb,h⟩
  ·exact h.elim
 case makeInterface t x =>
  split at h
  ·rename_i hb;exact ⟨hb,h⟩
  ·exact h.elim
 case call c =>
  obtain ⟨callee,args,ts⟩:=c
  cases callee with
  | builtin b=>exact B4Z h
  | invoke r name=>simp only [A3L] at h;exact B6D h
  | value f =>
   simp only [A3L,A3F] at h
   simp only [A3E]
   split at h
   ·rename_i g fs cs hf
    rw [hf]
    simp only
    split at h
    ·exact h.out
    ·exact h.elim
   ·exact h.elim
def A5k (ops:List Oper) (o:Oper) (A:List AV) (x y:Prop):Prop :=
 match o.guard with
 | none=>x
 | some (g,want)=>match ops[g]? with
  | none=>y
  | some p=>match p.dst with
   | none=>y
   | some d=>A7G A d fun v=>match v with
    | .bool b=>(match want with | true=>A4d b x y | false=>A4d b y x)
    | .tuple _=>y
    | _=>False
theorem A3v {ops:List Oper} {o:Oper} {A:List AV} {x y:Prop} (h:A5k ops o A x y):∃ b,A0e ops o A=some b∧(b=true→x)∧(b=false→y):=by
 unfold A5k at h
 unfold A0e
 split at h
 ·rename_i hg;exact ⟨true,by simp [hg],fun _=>h,fun e=>by cases e⟩
 ·rename_i g want hg
  simp only [hg]
  split at h
  ·rename_i hp;exact ⟨false,by simp [hp],(fun e=>by cases e),fun _=>h⟩
  ·rename_i p hp
   simp only [hp]
   split at h
   ·rename_i hd;exact ⟨false,by simp [hd],(fun e=>by cases e),fun _=>h⟩
   ·rename_i d hd
    simp only [hd]
    rw [A2J] at h
    rw [List.getD_eq_getElem?_getD] at h
    cases hA:A[d]? with
    | none=>exact ⟨false,by simp,(fun e=>by cases e),fun _=>by rw [hA] at h;exact h.elim⟩
    | some v =>
     rw [hA] at h
     simp only [Option.getD_some] at h
     split at h
     ·rename_i b
      cases want with
      | true=>exact ⟨b,by simp,(Z0 _ _ _).1 h⟩
      | false=>exact ⟨!b,by simp,fun e=>((Z0 _ _ _).1 h).2 (by simpa using e),fun e=>((Z0 _ _ _).1 h).1 (by simpa using e)⟩
     ·exact ⟨false,rfl,(fun e=>by cases e),fun _=>h⟩
     ·exact h.elim
def inF (frz:List Nat) (d:Option Tmp):Bool:=match d with | some p=>frz.contains p | none=>false
def A4M (frz:List Nat) (o1 o2:Oper):Option (Tmp×TypeId×TypeId×Operand) :=
 match o1.guard,o2.guard with
 | none,none=>match o1.op,o1.dst,o2.op with
  | .alloc t,some p,.store u (.tmp q) y=>(match Nat.beq p q&&frz.contains p with | true=>some (p,t,u,y) | false=>none)
  | _,_,_=>none
 | _,_=>none
theorem B5D {rd:Addr→Option Value} {sz:Nat→Nat} {v v':AV} {r:Nat} {c:Value} (he:cellsOf v=cellsOf v') (h:Rep rd sz (.fptr v r) c):Rep rd sz (.fptr v' r) c:=by
 cases h with
 | fptr v r a g hr hg=>exact .fptr v' r a g (fun j hj=>hr j (by rw [he];exact hj)) (fun j y hy=>hg j y (by rw [he];exact hy))
theorem C2n {A:List AV} {st:St} {p b:Nat} {d:Option Tmp} {x y:Q3} {v:AV} {e:Nat} (hb:st b=none) (hn:0<y.n) (hv:cellsOf (y.f 0)=cellsOf v) (hp:p<A.length) (hd:d≠some p) :
  A4x (I5 (I5 A (some p) (.optr e b 0 0)) d (.tuple [])) (upd (upd st b x) b y) (I5 (I5 A (some p) (.fptr v 0)) d (.tuple [])) st:=by
 intro w a hA hS
 have hst:upd (upd st b x) b y b=some y:=by simp [upd]
 have hne:∀ c,c≠b→upd (upd st b x) b y c=st c:=fun c hc=>by simp [upd,hc]
 have he:Z6 (upd (upd st b x) b y) w st w:=⟨rfl,rfl,rfl,Nat.le_refl _,fun c _ hs=>⟨rfl,by
  by_cases hc:c=b
  ·subst hc;exact hb
  ·rw [hne c hc] at hs;exact hs⟩,fun _=>Nat.le_refl _⟩
 obtain ⟨cs,hok⟩:=hS b y hst
 refine ⟨⟨by have:=hA.len;simp [I5] at this ⊢;cases d<;>simp_all,fun i u hu=>?_,hA.defers⟩,fun c z hz=>?_,he⟩
 ·by_cases hi:i=p
  ·subst hi
   have hpt:(I5 (I5 A (some i) (.optr e b 0 0)) d (.tuple []))[i]?=some (.optr e b 0 0):=by
    cases d with
    | none=>simp [I5,hp]
    | some q=>simp only [I5];rw [List.getElem?_set_ne (fun h=>hd (by rw [h]))];simp [hp]
   have hpt':(I5 (I5 A (some i) (.fptr v 0)) d (.tuple []))[i]?=some (.fptr v 0):=by
    cases d with
    | none=>simp [I5,hp]
    | some q=>simp only [I5];rw [List.getElem?_set_ne (fun h=>hd (by rw [h]))];simp [hp]
   rw [hpt'] at hu
   cases hu
   obtain ⟨c,hc1,hc2⟩:=hA.at_ i _ hpt
   refine ⟨c,hc1,?_⟩
   cases hc2
   have:=B5D hv (A8e (hok.evo he rfl) hb hn)
   simpa using this
  ·have hsame:(I5 (I5 A (some p) (.optr e b 0 0)) d (.tuple []))[i]?=(I5 (I5 A (some p) (.fptr v 0)) d (.tuple []))[i]?:=by
    cases d with
    | none=>simp only [I5];rw [List.getElem?_set_ne (fun h=>hi h.symm),List.getElem?_set_ne (fun h=>hi h.symm)]
    | some q =>
     simp only [I5,List.getElem?_set,List.length_set]
     rw [if_neg (show ¬ p=i from fun h=>hi h.symm),if_neg (show ¬ p=i from fun h=>hi h.symm)]
   rw [←hsame] at hu
   obtain ⟨c,hc1,hc2⟩:=hA.at_ i u hu
   exact ⟨c,hc1,he.rep hc2⟩
 ·have hc:c≠b:=fun h=>by rw [h,hb] at hz;cases hz
  obtain ⟨ds,hd'⟩:=hS c z (by rw [hne c hc];exact hz)
  exact ⟨ds,hd'.evo he rfl⟩
def B5Q (d:Option Tmp) (p:Tmp):Bool:=match d with | some q=>!Nat.beq q p | none=>true
def B7h (y:Operand) (p:Tmp):Bool:=match y with | .tmp q=>!Nat.beq q p | _=>true
theorem B8k {d:Option Tmp} {p:Tmp} (h:B5Q d p=true):d≠some p:=fun e=>by subst e;simp [B5Q] at h
theorem B4b {y:Operand} {p:Tmp} (h:B7h y p=true):y≠.tmp p:=fun e=>by subst e;simp [B7h] at h
def B0w (T:G9) (p:Tmp) (t u:TypeId) (y:Operand) (d:Option Tmp) (A:List AV) (st:St) (k:KA):Prop :=
 match T t,T u with
 | some r,some q=>evK A y fun v=>match Nat.blt p A.length&&B5Q d p&&Nat.blt 0 q.size&&Nat.beq (cellsOf (K6 r.zero)).length q.size&&(cellsOf (K6 r.zero)).all AV.one&&Nat.beq (cellsOf v).length q.size&&(cellsOf v).all AV.one&&B7h y p with
   | true=>B2R A p (.fptr v 0) fun A'=>A0V A' d (.tuple []) fun A''=>k A'' st
   | false=>False
 | _,_=>False
theorem B2O {v:AV} {cs:List AV} (h:cs.length=(cellsOf v).length) (h1:cs.all AV.one=true) (h2:0<cs.length):cellsOf (M9 v 0 cs)=cs:=by
 rw [A4W (by omega) h1 h2]
 simp [h]
theorem A5i {P:Program} {T:G9} {M:H8} {frz:List Nat} {o1 o2:Oper} {p:Tmp} {t u:TypeId} {y:Operand} (hp:A4M frz o1 o2=some (p,t,u,y)) {A:List AV} {st:St} {k:KA} (h:B0w T p t u y o2.dst A st k) :
  o1.guard=none∧o2.guard=none∧aOp P T M o1 A st fun v st'=>aOp P T M o2 (I5 A o1.dst v) st' fun v' st''=>A4m k (I5 (I5 A o1.dst v) o2.dst v') st'':=by
 unfold A4M at hp
 split at hp
 case h_2=>cases hp
 rename_i hg1 hg2
 split at hp
 case h_2=>cases hp
 rename_i t' p' u' q' y' ho1 hd1 ho2
 split at hp
 case h_2=>cases hp
 rename_i hb
 cases hp
 simp only [Bool.and_eq_true] at hb
 obtain rfl:=Nat.eq_of_beq_eq_true hb.1
 refine ⟨hg1,hg2,?_⟩
 unfold B0w at h
 split at h
 case h_2=>exact h.elim
 rename_i r q hr hq
 rw [A3L] at h
 split at h
 case h_2=>exact h.elim
 rename_i hb
 simp only [Bool.and_eq_true,Nat.blt_eq,Nat.beq_eq] at hb
 obtain ⟨⟨⟨⟨⟨⟨⟨hlt,hd⟩,hq0⟩,hz1⟩,hz2⟩,hv1⟩,hv2⟩,hy⟩:=hb
 have hd:=B8k hd
 have hy:=B4b hy
 rw [A7l,Q8] at h
 have hk:=h
 unfold aOp
 rw [ho1,ho2,hd1]
 simp only [hr,hq]
 refine ⟨by omega,hz2,.inr fun b hb=>⟨hq0,?_⟩⟩
 have hevp:ev (I5 A (some p) (.optr (cellsOf (K6 r.zero)).length b 0 0)) (.tmp p)=.optr (cellsOf (K6 r.zero)).length b 0 0:=by
  simp [ev,I5,hlt]
 have hevy:ev (I5 A (some p) (.optr (cellsOf (K6 r.zero)).length b 0 0)) y=ev A y:=B5z fun t ht hyt=>by
  cases ht;exact hy hyt
 unfold A6b
 simp only [hq,hevp,hevy]
 have hst:upd st b ⟨t,(cellsOf (K6 r.zero)).length,1,fun _=>K6 r.zero⟩ b=some ⟨t,(cellsOf (K6 r.zero)).length,1,fun _=>K6 r.zero⟩:=by simp [upd]
 rw [hst]
 refine ⟨rfl,Nat.one_pos,hv1,hv2,by simp only;omega,_,_,C2n hb Nat.one_pos ?_ hlt hd,hk⟩
 simp only [G6,if_true]
 exact B2O (by omega) hv2 (by omega)
def A7t (frz:List Nat) (o om o2:Oper):Option (Tmp×Operand×Tmp×TypeId×TypeId×Operand) :=
 match om.guard,om.op,om.dst,A4M frz o o2 with
 | none,.assign x,some m,some (p,t,u,y)=>(match !Nat.beq m p&&B7h x p with | true=>some (m,x,p,t,u,y) | false=>none)
 | _,_,_,_=>none
def A8O (T:G9) (m:Tmp) (x:Operand) (p:Tmp) (t u:TypeId) (y:Operand) (d:Option Tmp) (A:List AV) (st:St) (k:KA):Prop :=
 evK A x fun v=>B2R A m v fun A1=>B0w T p t u y d A1 st k
theorem B0D {P:Program} {T:G9} {M:H8} {o:Oper} {t:TypeId} (ho:o.op=.alloc t) {A B:List AV} {st:St} {k:KK} (h:aOp P T M o A st k):aOp P T M o B st k:=by
 unfold aOp at *
 rw [ho] at h ⊢
 exact h
theorem B0V {P:Program} {T:G9} {M:H8} {frz:List Nat} {o1 om o2:Oper} {m p:Tmp} {x:Operand} {t u:TypeId} {y:Operand} (hp:A7t frz o1 om o2=some (m,x,p,t,u,y)) {A:List AV} {st:St} {k:KA} (h:A8O T m x p t u y o2.dst A st k) :
  o1.guard=none∧om.guard=none∧o2.guard=none∧aOp P T M o1 A st fun v st'=>aOp P T M om (I5 A o1.dst v) st' fun v1 st1=>aOp P T M o2 (I5 (I5 A o1.dst v) om.dst v1) st1 fun v' st''=>A4m k (I5 (I5 (I5 A o1.dst v) om.dst v1) o2.dst v') st'':=by
 unfold A7t at hp
 split at hp
 case h_2=>cases hp
 rename_i x' m' p' t' u' y' hg hop hdst hpr
 split at hp
 case h_2=>cases hp
 rename_i hb
 cases hp
 simp only [Bool.and_eq_true,Bool.not_eq_true'] at hb
 have hmp:m≠p:=fun e=>by subst e;simp at hb
 have hxp:x≠.tmp p:=B4b hb.2
 unfold A8O at h
 rw [A3L,A7l] at h
 obtain ⟨g1,g2,h1⟩:=A5i (P:=P) (M:=M) hpr h
 have hal:∃ t0,o1.op=.alloc t0∧o1.dst=some p:=by
  unfold A4M at hpr
  split at hpr
  case h_2=>cases hpr
  split at hpr
  case h_2=>cases hpr
  rename_i t0 p0 u0 q0 y0 ho1 hd1 ho2
  split at hpr
  case h_2=>cases hpr
  cases hpr
  exact ⟨_,ho1,hd1⟩
 obtain ⟨t0,ho1,hd1⟩:=hal
 refine ⟨g1,hg,g2,P4 (fun v st' h2=>?_) (B0D (B:=A) ho1 h1)⟩
 have e1:ev (I5 A (some p) v) x=ev A x:=B5z fun t ht hx=>by cases ht;exact hxp hx
 have e2:I5 (I5 A (some p) v) (some m) (ev A x)=I5 (A.set m (ev A x)) (some p) v:=by
  have:=A5y A (x:=some p) (y:=some m) v (ev A x) (fun d hd e=>by cases hd;cases e;exact hmp rfl)
  exact this
 rw [hd1] at h2 ⊢
 rw [hdst]
 unfold aOp
 rw [hop]
 simp only [e1,e2]
 exact h2
def B9d (P:Program) (T:G9) (M:H8) (frz:List Nat) (ops:List Oper):List Oper→List AV→St→KA→Prop
 | [],A,st,k=>k A st
 | o::rest,A,st,k=>match (match rest with | [o2]=>A4M frz o o2 | _=>none) with
  | some (p,t,u,y)=>(match rest with | [o2]=>B0w T p t u y o2.dst A st k | _=>False)
  | none=>match (match rest with | [om,o2]=>A7t frz o om o2 | _=>none) with
  | some (m,x,p,t,u,y)=>(match rest with | [_,o2]=>A8O T m x p t u y o2.dst A st k | _=>False)
  | none=>A5k ops o A
   (xOp P T M (inF frz o.dst) o.op A st fun v st'=>A0V A o.dst v fun A'=>B9d P T M frz ops rest A' st' k)
   (A0V A o.dst (.tuple []) fun A'=>B9d P T M frz ops rest A' st k)
theorem A3h {P:Program} {T:G9} {M:H8} {ops:List Oper} {o:Oper} {rest:List Oper} {A:List AV} {st:St} {k:KA} (hg:o.guard=none) (h:aOp P T M o A st fun v st'=>A7v P T M ops rest (I5 A o.dst v) st' k):A7v P T M ops (o::rest) A st k:=by
 unfold A7v A0e
 rw [hg]
 exact ⟨fun _=>h,fun e=>by cases e⟩
theorem A8N {P:Program} {T:G9} {M:H8} {frz:List Nat} {ops:List Oper}:∀ (l:List Oper) (A:List AV) (st:St) (k:KA),B9d P T M frz ops l A st k→A7v P T M ops l A st (A4m k)
 | [],A,st,k,h=>⟨A,st,A4x.refl A st,h⟩
 | o::rest,A,st,k,h=>by
  unfold B9d at h
  split at h
  ·rename_i p t u y hp
   split at hp
   ·rename_i o2
    obtain ⟨g1,g2,h1⟩:=A5i (P:=P) (M:=M) hp h
    exact A3h g1 (P4 (fun v st' h2=>A3h g2 h2) h1)
   ·cases hp
  ·split at h
   ·rename_i m x p t u y hp
    split at hp
    ·rename_i om o2
     obtain ⟨g1,g2,g3,h1⟩:=B0V (P:=P) (M:=M) hp h
     exact A3h g1 (P4 (fun v st' h2=>A3h g2 (P4 (fun v1 st1 h3=>A3h g3 h3) h2)) h1)
    ·cases hp
   obtain ⟨b,hb,h1,h2⟩:=A3v h
   unfold A7v
   rw [hb]
   refine ⟨fun e=>P4 (fun v st' hk=>?_) (A2C (h1 e)),fun e=>?_⟩
   ·rw [Q8] at hk;exact A8N rest _ _ _ hk
   ·have:=h2 e;rw [Q8] at this;exact A8N rest _ _ _ this
def A9o (op:Op):Bool:=A0p op||(match op with | .load ..=>true | _=>false)
theorem B4h {r:D3} {cs:List AV} {i:Nat} {k:AV→Prop} (h:pick r cs i k):∃ v,(pick r cs i fun v'=>v'=v)∧k v:=by
 unfold pick at *
 split at h
 ·exact ⟨_,⟨h.1,rfl⟩,h.2⟩
 ·split at h
  ·exact ⟨_,rfl,h⟩
  ·exact h.elim
theorem B2j {P:Program} {T:G9} {M:H8} {o:Oper} (hd:A9o o.op=true) {A:List AV} {st:St} {k:KK} (h:aOp P T M o A st k):∃ v,(aOp P T M o A st fun v' s=>v'=v∧s=st)∧k v st:=by
 unfold aOp at *
 split at h
 all_goals repeat' first
  | exact h.elim
  | exact ⟨_,⟨rfl,rfl⟩,h⟩
  | exact ⟨_,⟨h.1,rfl,rfl⟩,h.2⟩
  | exact ⟨_,⟨h.1,h.2.1,rfl,rfl⟩,h.2.2⟩
  | exact ⟨_,⟨h.1,h.2.1,h.2.2.1,rfl,rfl⟩,h.2.2.2⟩
  | exact ⟨_,⟨h.1,h.2.1,h.2.2.1,h.2.2.2.1,rfl,rfl⟩,h.2.2.2.2⟩
  | (obtain ⟨v,h1,h2⟩:=B4h h;exact ⟨v,A3o (fun v' e=>⟨e,rfl⟩) h1,h2⟩)
  | (obtain ⟨v,h1,h2⟩:=B4h h.2.2;exact ⟨v,⟨h.1,h.2.1,A3o (fun v' e=>⟨e,rfl⟩) h1⟩,h2⟩)
  | (obtain ⟨h0,h⟩:=h;split at h<;>first | exact h.elim | exact ⟨_,⟨h0,rfl,rfl⟩,h⟩)
  | (rename_i b hb;cases b;exact ⟨_,⟨(fun e=>by cases e),fun _=>⟨rfl,rfl⟩⟩,h.2 rfl⟩;exact ⟨_,⟨fun _=>⟨rfl,rfl⟩,fun e=>by cases e⟩,h.1 rfl⟩)
  | split at h
  | unfold A2j at h ⊢ | unfold A5Y at h ⊢ | unfold A7x at h ⊢ | unfold A0n at h ⊢ | unfold A5Z at h ⊢ | unfold A1b at h ⊢ | unfold A6a at h ⊢ | unfold A3g at h ⊢ | unfold A1r at h ⊢
  | (exfalso;clear h;simp_all [A9o,A0p];done)
def B0U (P:Program) (T:G9) (M:H8) (frz:List Nat) (ops:List Oper) (eff ext:List Nat):List Nat→List AV→St→KA→Prop
 | [],A,st,k=>k A st
 | i::ord,A,st,k=>match ops[i]? with
  | none=>False
  | some o=>match (match ord with | [j]=>(match ops[j]? with | some o2=>(match eff.contains i&&eff.contains j with | true=>A4M frz o o2 | false=>none) | none=>none) | _=>none) with
   | some (p,t,u,y)=>(match ord with | [j]=>(match ops[j]? with | some o2=>B0w T p t u y o2.dst A st k | none=>False) | _=>False)
   | none=>A5k ops o A
    (match eff.contains i with
     | true=>xOp P T M (inF frz o.dst) o.op A st fun v st'=>A0V A o.dst v fun A'=>B0U P T M frz ops eff ext ord A' st' k
     | false=>match ext.contains i with
      | true=>∃ v,(∀ st',Ext st st'→xOp P T M (inF frz o.dst) o.op A st' fun v' st''=>v'=v∧st''=st')∧A0V A o.dst v fun A'=>B0U P T M frz ops eff ext ord A' st k
      | false=>match A9o o.op with
       | true=>xOp P T M (inF frz o.dst) o.op A st fun v _=>A0V A o.dst v fun A'=>B0U P T M frz ops eff ext ord A' st k
       | false=>∃ v,(xOp P T M (inF frz o.dst) o.op A st fun v' st''=>v'=v∧st''=st)∧A0V A o.dst v fun A'=>B0U P T M frz ops eff ext ord A' st k)
    (A0V A o.dst (.tuple []) fun A'=>B0U P T M frz ops eff ext ord A' st k)
theorem A5H {P:Program} {T:G9} {M:H8} {frz:List Nat} {ops:List Oper} {eff ext:List Nat}:∀ (ord:List Nat) (A:List AV) (st:St) (k:KA),B0U P T M frz ops eff ext ord A st k→A9h P T M ops eff ext ord A st (A4m k)
 | [],A,st,k,h=>⟨A,st,A4x.refl A st,h⟩
 | i::ord,A,st,k,h=>by
  unfold B0U at h
  cases ho:ops[i]? with
  | none=>rw [ho] at h;exact h.elim
  | some o =>
   rw [ho] at h
   simp only at h
   split at h
   ·rename_i p t u y hp
    split at hp
    ·rename_i j
     split at hp
     ·rename_i o2 ho2
      split at hp
      ·rename_i hee
       simp only [Bool.and_eq_true] at hee
       simp only [ho2] at h
       obtain ⟨g1,g2,h1⟩:=A5i (P:=P) (M:=M) hp h
       unfold A9h
       rw [ho]
       have w1:A0e ops o A=some true:=by unfold A0e;rw [g1]
       simp only [w1]
       refine ⟨fun _=>?_,fun e=>by cases e⟩
       rw [hee.1]
       refine P4 (fun v st' h2=>?_) h1
       unfold A9h
       rw [ho2]
       have w2:A0e ops o2 (I5 A o.dst v)=some true:=by unfold A0e;rw [g2]
       simp only [w2]
       refine ⟨fun _=>?_,fun e=>by cases e⟩
       rw [hee.2]
       exact P4 (fun v' st'' h3=>h3) h2
      ·cases hp
     ·cases hp
    ·cases hp
   ·unfold A9h
    rw [ho]
    simp only
    obtain ⟨b,hb,h1,h2⟩:=A3v h
    rw [hb]
    simp only
    refine ⟨fun e=>?_,fun e=>?_⟩
    ·have h1:=h1 e
     split at h1
     ·rename_i hc
      rw [hc]
      exact P4 (fun v st' hk=>by rw [Q8] at hk;exact A5H ord _ _ _ hk) (A2C h1)
     ·rename_i hc
      rw [hc]
      simp only
      split at h1
      ·rename_i hx
       rw [hx]
       obtain ⟨v,hv,hk⟩:=h1
       rw [Q8] at hk
       exact ⟨v,fun st' hs=>A2C (hv st' hs),A5H ord _ _ _ hk⟩
      ·rename_i hx
       rw [hx]
       simp only
       split at h1
       ·rename_i hdet
        obtain ⟨v,hv,hk⟩:=B2j hdet (A2C h1)
        rw [Q8] at hk
        exact ⟨v,hv,A5H ord _ _ _ hk⟩
       ·obtain ⟨v,hv,hk⟩:=h1
        rw [Q8] at hk
        exact ⟨v,A2C hv,A5H ord _ _ _ hk⟩
    ·have:=h2 e
     rw [Q8] at this
     exact A5H ord _ _ _ this
def B5b (P:Program) (T:G9) (M:H8) (frz:List Nat) (ops:List Oper) (i:Nat) (K:KA) (A:List AV) (st:St):Prop :=
 match ops[i]? with
 | none=>False
 | some o=>A5k ops o A (xOp P T M (inF frz o.dst) o.op A st fun v st'=>A0V A o.dst v fun A'=>K A' st') (A0V A o.dst (.tuple []) fun A'=>K A' st)
def C3s (P:Program) (T:G9) (M:H8) (frz:List Nat) (ops:List Oper) (i:Nat) (K:KA) (A:List AV) (st:St):Prop :=
 match ops[i]? with
 | none=>False
 | some o=>A5k ops o A
  (match A9o o.op with
   | true=>xOp P T M (inF frz o.dst) o.op A st fun v _=>A0V A o.dst v fun A'=>K A' st
   | false=>∃ v,(xOp P T M (inF frz o.dst) o.op A st fun v' st''=>v'=v∧st''=st)∧A0V A o.dst v fun A'=>K A' st)
  (A0V A o.dst (.tuple []) fun A'=>K A' st)
def A5W (P:Program) (T:G9) (M:H8) (frz:List Nat) (ops:List Oper):OT→List AV→St→KA→Prop
 | .done,A,st,k=>k A st
 | .gen i t,A,st,k=>B5b P T M frz ops i (fun A' st'=>A5W P T M frz ops t A' st' k) A st
 | .qui i t,A,st,k=>C3s P T M frz ops i (fun A' st'=>A5W P T M frz ops t A' st' k) A st
 | .two i j t u,A,st,k=>B5b P T M frz ops i (fun A' st'=>A5W P T M frz ops t A' st' k) A st∧B5b P T M frz ops j (fun A' st'=>A5W P T M frz ops u A' st' k) A st
theorem B3h {P:Program} {T:G9} {M:H8} {frz:List Nat} {ops:List Oper} {i:Nat} {K K':KA} {A:List AV} {st:St} (hK:∀ A st,K A st→K' A st) (h:B5b P T M frz ops i K A st):B5t P T M ops i K' A st:=by
 unfold B5b at h
 unfold B5t
 cases ho:ops[i]? with
 | none=>rw [ho] at h;exact h.elim
 | some o =>
  rw [ho] at h
  simp only at h ⊢
  obtain ⟨b,hb,h1,h2⟩:=A3v h
  rw [hb]
  refine ⟨fun e=>?_,fun e=>?_⟩
  ·exact P4 (fun v st' hk=>by rw [Q8] at hk;exact hK _ _ hk) (A2C (h1 e))
  ·have:=h2 e
   rw [Q8] at this;exact hK _ _ this
theorem C3t {P:Program} {T:G9} {M:H8} {frz:List Nat} {ops:List Oper} {i:Nat} {K K':KA} {A:List AV} {st:St} (hK:∀ A st,K A st→K' A st) (h:C3s P T M frz ops i K A st):C2c P T M ops i K' A st:=by
 unfold C3s at h
 unfold C2c
 cases ho:ops[i]? with
 | none=>rw [ho] at h;exact h.elim
 | some o =>
  rw [ho] at h
  simp only at h ⊢
  obtain ⟨b,hb,h1,h2⟩:=A3v h
  rw [hb]
  refine ⟨fun e=>?_,fun e=>?_⟩
  ·have h1:=h1 e
   split at h1
   ·rename_i hdet
    obtain ⟨v,hv,hk⟩:=B2j hdet (A2C h1)
    rw [Q8] at hk
    exact ⟨v,hv,hK _ _ hk⟩
   ·obtain ⟨v,hv,hk⟩:=h1
    rw [Q8] at hk
    exact ⟨v,A2C hv,hK _ _ hk⟩
  ·have:=h2 e
   rw [Q8] at this;exact hK _ _ this
theorem A5j {P:Program} {T:G9} {M:H8} {frz:List Nat} {ops:List Oper}:∀ (t:OT) (A:List AV) (st:St) (k:KA),A5W P T M frz ops t A st k→A6O P T M ops t A st (A4m k)
 | .done,A,st,k,h=>⟨A,st,A4x.refl A st,h⟩
 | .gen i t,A,st,k,h=>B3h (fun A st h=>A5j t A st k h) h
 | .qui i t,A,st,k,h=>C3t (fun A st h=>A5j t A st k h) h
 | .two i j t u,A,st,k,h=>⟨B3h (fun A st h=>A5j t A st k h) h.1,B3h (fun A st h=>A5j u A st k h) h.2⟩
def xDr (P:Program) (T:G9) (M:H8) (frz:List Nat) (ops:List Oper) (A:List AV) (st:St) (k:KA):Prop :=
 ∃ eff ext ord:List Nat,match ord with
  | []=>∃ t:OT,(Region.noSelect ops.toArray&&okT ops.toArray eff t ops.length (Array.replicate ops.length false))=true∧A5W P T M frz ops t A st k
  | _::_=>(Region.noSelect ops.toArray&&A9F ops.toArray eff ext ord (Array.replicate ops.length false)&&(ord.length==ops.length))=true∧B0U P T M frz ops eff ext ord A st k
theorem C1C {P:Program} {T:G9} {M:H8} {frz:List Nat} {ops:List Oper} {A:List AV} {st:St} {k:KA} (h:xDr P T M frz ops A st k):Dr P T M ops A st (A4m k):=by
 obtain ⟨eff,ext,ord,h⟩:=h
 refine ⟨eff,ext,ord,?_⟩
 split at h
 ·obtain ⟨t,h1,h2⟩:=h
  exact ⟨t,h1,A5j t _ _ _ h2⟩
 ·exact ⟨h.1,A5H _ _ _ _ h.2⟩
def A9Y:Nat→(List AV→Prop)→Prop
 | 0,k=>k []
 | n+1,k=>A9Y n fun A=>k (.junk::A)
theorem A9Z:∀ (n:Nat) (k:List AV→Prop),A9Y n k=k (List.replicate n .junk)
 | 0,k=>rfl
 | n+1,k=>by rw [A9Y,A9Z n];rfl
def A7m:List Nat→List AV→List AV→(List AV→Prop)→Prop
 | i::is,v::vs,A,k=>B2R A i v fun A'=>A7m is vs A' k
 | _,_,A,k=>k A
theorem B0g:∀ (is:List Nat) (vs A:List AV) (k:List AV→Prop),A7m is vs A k=k ((is.zip vs).foldl (fun A p=>A.set p.1 p.2) A)
 | [],vs,A,k=>by simp [A7m]
 | i::is,[],A,k=>by simp [A7m]
 | i::is,v::vs,A,k=>by simp only [A7m,A7l,B0g is vs,List.zip_cons_cons,List.foldl_cons]
def A2K (A:List AV):List Nat→(List AV→Prop)→Prop
 | [],k=>k []
 | i::is,k=>A7G A i fun v=>A2K A is fun vs=>k (v::vs)
theorem A1u (A:List AV):∀ (is:List Nat) (k:List AV→Prop),A2K A is k=k (is.map fun i=>A.getD i AV.junk)
 | [],k=>rfl
 | i::is,k=>by simp only [A2K,A2J,A1u A is,List.map_cons]
def C1D (T:G9) (A:List AV) (st:St) (r:ResultVar) (k:AV→Prop):Prop :=
 match r with
 | .tmp t=>A7G A t k
 | .cell t ty=>A7G A t fun p=>B5c T ty p st (fun v _=>k v)
def B5d (T:G9) (A:List AV) (st:St):List ResultVar→(List AV→Prop)→Prop
 | [],k=>k []
 | r::rs,k=>C1D T A st r fun v=>B5d T A st rs fun vs=>k (v::vs)
theorem B0y {T:G9} {A:List AV} {st:St}:∀ (rs:List ResultVar) (k:List AV→Prop),B5d T A st rs k→A7X T A st rs k
 | [],k,h=>h
 | r::rs,k,h=>by
  simp only [B5d] at h
  simp only [A7X]
  cases r with
  | tmp t=>simp only [C1D,B3r,A2J] at h ⊢;exact B0y rs _ h
  | cell t ty=>simp only [C1D,B3r,A2J] at h ⊢;exact A3D (fun v hv=>B0y rs _ hv) (B0v h)
def C3q (T:G9) (rs:List ResultVar) (post:KK):Exit→KA:=fun e A st=>match e with
 | .normal=>B5d T A st rs fun vs=>post (A8x vs) st
 | .ret=>B5d T A st rs fun vs=>post (A8x vs) st
 | _=>False
def C3m:Nat→(List AV→Prop)→Prop
 | 0,k=>k []
 | n+1,k=>C3m n fun A=>k (.tuple []::A)
theorem B7y:∀ (n:Nat) (k:List AV→Prop),C3m n k=k (List.replicate n (.tuple []))
 | 0,k=>rfl
 | n+1,k=>by rw [C3m,B7y n];rfl
def A5c:List AV→Nat→(List AV→Prop)→Prop
 | [],n,k=>C3m n k
 | v::vs,n,k=>A5c vs (n - 1) fun A=>k (v::A)
theorem B1E:∀ (args:List AV) (n:Nat) (k:List AV→Prop),A5c args n k=k (start args n)
 | [],n,k=>by rw [A5c,B7y];simp [start]
 | v::vs,n,k=>by
  rw [A5c,B1E vs (n - 1)]
  unfold start
  simp only [List.length_cons,List.cons_append]
  rw [show n - 1 - vs.length=n - (vs.length+1) from by omega]
noncomputable def C1G (P:Program) (T:G9) (M:H8) (frz:List Nat) (ops:List Oper) (l:List Oper):List AV→St→KA→Prop :=
 List.rec (motive:=fun _=>List AV→St→KA→Prop) (fun A st k=>k A st)
  (fun o rest ih A st k=>match (match rest with | [o2]=>A4M frz o o2 | _=>none) with
   | some (p,t,u,y)=>(match rest with | [o2]=>B0w T p t u y o2.dst A st k | _=>False)
   | none=>match (match rest with | [om,o2]=>A7t frz o om o2 | _=>none) with
   | some (m,x,p,t,u,y)=>(match rest with | [_,o2]=>A8O T m x p t u y o2.dst A st k | _=>False)
   | none=>A5k ops o A
    (xOp P T M (inF frz o.dst) o.op A st fun v st'=>A0V A o.dst v fun A'=>ih A' st' k)
    (A0V A o.dst (.tuple []) fun A'=>ih A' st k)) l
theorem B3j {P:Program} {T:G9} {M:H8} {frz:List Nat} {ops:List Oper}:∀ l,C1G P T M frz ops l=B9d P T M frz ops l
 | []=>rfl
 | o::rest=>by
  funext A st k
  conv=>rhs;unfold B9d
  rw [←B3j rest]
  rfl
noncomputable def C8q (P:Program) (T:G9) (M:H8) (frz:List Nat) (ops:List Oper) (eff ext:List Nat) (ord:List Nat):List AV→St→KA→Prop :=
 List.rec (motive:=fun _=>List AV→St→KA→Prop) (fun A st k=>k A st)
  (fun i ord ih A st k=>match ops[i]? with
   | none=>False
   | some o=>match (match ord with | [j]=>(match ops[j]? with | some o2=>(match eff.contains i&&eff.contains j with | true=>A4M frz o o2 | false=>none) | none=>none) | _=>none) with
    | some (p,t,u,y)=>(match ord with | [j]=>(match ops[j]? with | some o2=>B0w T p t u y o2.dst A st k | none=>False) | _=>False)
    | none=>A5k ops o A
     (match eff.contains i with
      | true=>xOp P T M (inF frz o.dst) o.op A st fun v st'=>A0V A o.dst v fun A'=>ih A' st' k
      | false=>match ext.contains i with
       | true=>∃ v,(∀ st',Ext st st'→xOp P T M (inF frz o.dst) o.op A st' fun v' st''=>v'=v∧st''=st')∧A0V A o.dst v fun A'=>ih A' st k
       | false=>match A9o o.op with
        | true=>xOp P T M (inF frz o.dst) o.op A st fun v _=>A0V A o.dst v fun A'=>ih A' st k
        | false=>∃ v,(xOp P T M (inF frz o.dst) o.op A st fun v' st''=>v'=v∧st''=st)∧A0V A o.dst v fun A'=>ih A' st k)
     (A0V A o.dst (.tuple []) fun A'=>ih A' st k)) ord
theorem B7D {P:Program} {T:G9} {M:H8} {frz:List Nat} {ops:List Oper} {eff ext:List Nat}:∀ l,C8q P T M frz ops eff ext l=B0U P T M frz ops eff ext l
 | []=>rfl
 | i::ord=>by
  funext A st k
  conv=>rhs;unfold B0U
  rw [←B7D ord]
  rfl
noncomputable def C3M (P:Program) (T:G9) (M:H8) (frz:List Nat) (ops:List Oper) (t:OT):List AV→St→KA→Prop :=
 OT.rec (motive:=fun _=>List AV→St→KA→Prop) (fun A st k=>k A st)
  (fun i _ ih A st k=>B5b P T M frz ops i (fun A' st'=>ih A' st' k) A st)
  (fun i _ ih A st k=>C3s P T M frz ops i (fun A' st'=>ih A' st' k) A st)
  (fun i j _ _ iht ihu A st k=>B5b P T M frz ops i (fun A' st'=>iht A' st' k) A st∧B5b P T M frz ops j (fun A' st'=>ihu A' st' k) A st) t
theorem A5m {P:Program} {T:G9} {M:H8} {frz:List Nat} {ops:List Oper}:∀ t,C3M P T M frz ops t=A5W P T M frz ops t
 | .done=>rfl
 | .gen i t=>by
  funext A st k
  conv=>rhs;unfold A5W
  rw [←A5m t];rfl
 | .qui i t=>by
  funext A st k
  conv=>rhs;unfold A5W
  rw [←A5m t];rfl
 | .two i j t u=>by
  funext A st k
  conv=>rhs;unfold A5W
  rw [←A5m t,←A5m u];rfl
noncomputable def yDr (P:Program) (T:G9) (M:H8) (frz:List Nat) (ops:List Oper) (A:List AV) (st:St) (k:KA):Prop :=
 ∃ eff ext ord:List Nat,match ord with
  | []=>∃ t:OT,(Region.noSelect ops.toArray&&okT ops.toArray eff t ops.length (Array.replicate ops.length false))=true∧C3M P T M frz ops t A st k
  | _::_=>(Region.noSelect ops.toArray&&A9F ops.toArray eff ext ord (Array.replicate ops.length false)&&(ord.length==ops.length))=true∧C8q P T M frz ops eff ext ord A st k
theorem C1F {P:Program} {T:G9} {M:H8} {frz:List Nat} {ops:List Oper} {A:List AV} {st:St} {k:KA}:yDr P T M frz ops A st k=xDr P T M frz ops A st k:=by
 unfold yDr xDr
 simp only [B7D,A5m]
theorem A0 (st:St) (b:Nat) (x:Q3):upd st b x b=some x:=by simp [upd]
theorem A9 {st:St} {b c:Nat} {x:Q3} (h:c≠b):upd st b x c=st c:=by simp [upd,h]
theorem B4X {st:St} {b c:Nat} {x:Q3} (h:upd st b x c=none):c≠b∧st c=none:=by
 unfold upd at h
 split at h
 ·cases h
 ·rename_i e;exact ⟨e,h⟩
theorem A5G (st:St) (b:Nat) (x y:Q3):upd (upd st b x) b y=upd st b y:=funext fun c=>by unfold upd;split<;>rfl
theorem A2G {st:St} {b:Nat} (h:st b=none) (x:Q3):del (upd st b x) b=st:=funext fun c=>by
 unfold del upd
 split
 ·rename_i e;rw [e,h]
 ·rfl
theorem call {P:Program} {f:FuncId} {args:List AV} {st:St} {post k:KK} (h:S P f args st post) (hk:∀ v st',post v st'→k v st'):A1B P f args st k:=by
 refine ⟨?_⟩;unfold A2i;exact ⟨args,st,B4.refl _ _,h.mono hk⟩
theorem B3 {P:Program} {f:FuncId} {args:List AV} {st:St} {v:AV} {k:KK} (h:S P f args st fun v' st'=>v'=v∧st'=st) (hk:k v st):A1B P f args st k :=
 call h fun v' st' ⟨e1,e2⟩=>by rw [e1,e2];exact hk
theorem I7 {P:Program} {f:FuncId} {args args':List AV} {st st':St} {k:KK} (hs:B4 args st args' st') (h:A1B P f args' st' k):A1B P f args st k:=by
 refine ⟨?_⟩
 have h:=h.out
 unfold A2i at *
 obtain ⟨a,s,h1,h2⟩:=h
 exact ⟨a,s,hs.trans h1,h2⟩
end Go.Ab
