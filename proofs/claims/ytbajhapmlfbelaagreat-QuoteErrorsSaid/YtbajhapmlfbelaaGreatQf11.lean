/- Part 11 of the proof: contracts of the functions that the law reaches -/
import Derived.Test.YtbajhapmlfbelaaGreatQf10
set_option linter.unusedVariables false
set_option linter.unusedSimpArgs false
namespace Go.Ab
open Go
def A8h:List AV→Nat→(AV→Prop)→Prop
 | [],_,k=>k .junk
 | a::_,0,k=>k a
 | _::xs,n+1,k=>A8h xs n k
def B3v:List AV→Nat→AV→(List AV→Prop)→Prop
 | [],_,_,k=>k []
 | _::xs,0,v,k=>k (v::xs)
 | a::xs,n+1,v,k=>B3v xs n v fun xs'=>k (a::xs')
def A1l (A:List AV) (d:Option Tmp) (v:AV) (k:List AV→Prop):Prop:=match d with | some i=>B3v A i v k | none=>k A
theorem A2R:∀ (A:List AV) (i:Nat) (k:AV→Prop),A8h A i k=k (A.getD i .junk)
 | [],_,k=>by simp [A8h]
 | a::xs,0,k=>by simp [A8h]
 | a::xs,n+1,k=>by rw [A8h,A2R xs n k];simp
theorem A7J:∀ (A:List AV) (i:Nat) (v:AV) (k:List AV→Prop),B3v A i v k=k (A.set i v)
 | [],_,v,k=>by simp [B3v]
 | a::xs,0,v,k=>by simp [B3v]
 | a::xs,n+1,v,k=>by rw [B3v,A7J xs n v];simp
theorem S8 (A:List AV) (d:Option Tmp) (v:AV) (k:List AV→Prop):A1l A d v k=k (J6 A d v):=by
 cases d with
 | none=>rfl
 | some i=>exact A7J A i v k
def C6V (v:Value) (k:AV→Prop):Prop :=
 match v with
 | .bool b=>k (.bool b)
 | .int kk n=>k (.int kk n)
 | .string s=>k (.str s)
 | .pointer a=>(match a with | none=>k .nilp | some _=>k .junk)
 | .slice a l c=>(match a with | none=>(match l,c with | 0,0=>k .emp | _,_=>k .junk) | some _=>k .junk)
 | .nilFunc=>k .nilf
 | .nilIface=>k .nili
 | v=>k (H4 v)
theorem C3U (v:Value) (k:AV→Prop):C6V v k=k (H4 v):=by
 cases v with
 | pointer a=>cases a<;>rfl
 | slice a l c=>cases a with
  | none=>cases l<;>cases c<;>rfl
  | some a=>rfl
 | _=>rfl
def evK (A:List AV) (x:Operand) (k:AV→Prop):Prop :=
 match x with
 | .tmp t=>A8h A t k
 | .const v=>C6V v k
 | .global _=>k .junk
 | .func f=>k (.fn (.func f) [] [])
theorem A4g (A:List AV) (x:Operand) (k:AV→Prop):evK A x k=k (ev A x):=by
 cases x with
 | tmp t=>exact A2R A t k
 | const v=>exact C3U v k
 | _=>rfl
def B8E (A:List AV):List Operand→(List AV→Prop)→Prop
 | [],k=>k []
 | x::xs,k=>evK A x fun v=>B8E A xs fun vs=>k (v::vs)
theorem B7w (A:List AV):∀ (xs:List Operand) (k:List AV→Prop),B8E A xs k=k (xs.map (ev A))
 | [],k=>rfl
 | x::xs,k=>by simp only [B8E,A4g,B7w A xs,List.map_cons]
def B8D (A:List AV):List (Nat×Operand)→(List (Nat×AV)→Prop)→Prop
 | [],k=>k []
 | p::ps,k=>evK A p.2 fun v=>B8D A ps fun vs=>k ((p.1,v)::vs)
theorem A9k (A:List AV):∀ (ps:List (Nat×Operand)) (k:List (Nat×AV)→Prop),B8D A ps k=k (ps.map fun p=>(p.1,ev A p.2))
 | [],k=>rfl
 | p::ps,k=>by simp only [B8D,A4g,A9k A ps,List.map_cons]
def C3Y (A:List AV) (x:Option Operand) (k:Option AV→Prop):Prop:=match x with | none=>k none | some y=>evK A y fun v=>k (some v)
theorem C3Z (A:List AV) (x:Option Operand) (k:Option AV→Prop):C3Y A x k=k (x.map (ev A)):=by
 cases x with
 | none=>rfl
 | some y=>exact A4g A y _
def A4y (b:Bool) (x y:Prop):Prop:=match b with | true=>x | false=>y
theorem Z7 (b:Bool) (x y:Prop):A4y b x y↔(b=true→x)∧(b=false→y):=by cases b<;>simp [A4y]
theorem B9 {b:Bool} {x y:Prop} (h1:b=true→x) (h2:b=false→y):A4y b x y:=by cases b;exact h2 rfl;exact h1 rfl
structure A1o (P:Program) (f:FuncId) (args:List AV) (st:St) (k:KK):Prop where
 out:A2t P f args st k
def C0q:List AV→List AV→(List AV→Prop)→Prop
 | [],b,k=>k b
 | v::a,b,k=>C0q a b fun l=>k (v::l)
theorem A3Z:∀ (a b:List AV) (k:List AV→Prop),C0q a b k=k (a++b)
 | [],b,k=>rfl
 | v::a,b,k=>by rw [C0q,A3Z a b];rfl
def C1m:List AV→Nat→(Nat→Prop)→Prop
 | [],n,k=>k n
 | _::l,n,k=>C1m l (n+1) k
theorem B7D:∀ (l:List AV) (n:Nat) (k:Nat→Prop),C1m l n k=k (n+l.length)
 | [],n,k=>by simp [C1m]
 | a::l,n,k=>by rw [C1m,B7D l];simp [Nat.add_assoc,Nat.add_comm 1]
def B4D:List AV→List AV→(List AV→Prop)→Prop
 | cs,[],k=>k cs
 | _::cs,v::new,k=>B4D cs new fun r=>k (v::r)
 | [],_::_,k=>k []
def A7N:List AV→Nat→List AV→(List AV→Prop)→Prop
 | cs,0,new,k=>B4D cs new k
 | a::cs,n+1,new,k=>A7N cs n new fun r=>k (a::r)
 | [],_+1,_,k=>k []
theorem B4E:∀ (cs new:List AV) (k:List AV→Prop),new.length≤cs.length→B4D cs new k=k (new++cs.drop new.length)
 | cs,[],k,_=>by simp [B4D]
 | c::cs,v::new,k,h=>by rw [B4D,B4E cs new _ (by simpa using h)];simp
 | [],v::new,k,h=>by simp at h
theorem B0U:∀ (cs:List AV) (n:Nat) (new:List AV) (k:List AV→Prop),n+new.length≤cs.length→A7N cs n new k=k (cs.take n++new++cs.drop (n+new.length))
 | cs,0,new,k,h=>by rw [A7N,B4E cs new k (by omega)];simp
 | a::cs,n+1,new,k,h=>by
  rw [A7N,B0U cs n new _ (by simp at h;omega)]
  simp [show n+1+new.length=(n+new.length)+1 from by omega]
 | [],n+1,new,k,h=>by simp at h
def B2t (place:Nat→Option (Nat×Nat)):List (Nat×AV)→List AV→(List AV→Prop)→Prop
 | [],cells,k=>k cells
 | (i,v)::rest,cells,k=>match place i with
  | none=>False
  | some (off,size)=>match Nat.beq (cellsOf v).length size&&Nat.ble (off+size) cells.length&&(cellsOf v).all AV.one&&Nat.blt 0 size with
   | true=>A7N cells off (cellsOf v) fun cells'=>B2t place rest cells' k
   | false=>False
theorem A7T {place:Nat→Option (Nat×Nat)}:∀ (ps:List (Nat×AV)) (cells:List AV) (k:List AV→Prop),B2t place ps cells k→∃ out,A4w place cells ps=some out∧k out
 | [],cells,k,h=>⟨cells,rfl,h⟩
 | (i,v)::ps,cells,k,h=>by
  unfold B2t at h
  unfold A4w
  split at h
  ·exact h.elim
  ·rename_i off size hp
   rw [hp]
   simp only
   split at h
   ·rename_i hb
    simp only [Bool.and_eq_true,Nat.beq_eq,Nat.ble_eq,Nat.blt_eq] at hb
    obtain ⟨⟨⟨h1,h2⟩,h3⟩,h4⟩:=hb
    rw [B0U _ _ _ _ (by omega)] at h
    rw [if_neg (by simp only [not_or,Decidable.not_not,Bool.not_eq_false];exact ⟨h1,by omega,h3,by omega⟩)]
    rw [h1] at h
    exact A7T ps _ k h
   ·exact h.elim
def B7d (T:H9) (t:TypeId) (ps:List (Nat×AV)) (k:AV→Prop):Prop :=
 match T t with
 | none=>False
 | some r=>match r.desc with
  | .struct fs=>match places T fs.toList with
   | none=>False
   | some pl=>B2t (fun i=>pl[i]?) ps (cellsOf (H4 r.zero)) fun out=>k (.agg out)
  | .array n el=>match T el with
   | none=>False
   | some q=>B2t (fun i=>some (i * q.size,q.size)) ps (cellsOf (H4 r.zero)) fun out=>k (.agg out)
  | _=>False
theorem B9S {T:H9} {t:TypeId} {ps:List (Nat×AV)} {k:AV→Prop} (h:B7d T t ps k):A6w T t ps k:=by
 unfold B7d at h
 unfold A6w
 split at h
 ·exact h.elim
 ·rename_i r hr
  rw [hr]
  simp only
  split at h
  ·rename_i fs hd
   rw [hd]
   simp only
   split at h
   ·exact h.elim
   ·rename_i pl hp
    rw [hp]
    simp only
    obtain ⟨out,h1,h2⟩:=A7T _ _ _ h
    rw [h1];exact h2
  ·rename_i n el hd
   rw [hd]
   simp only
   split at h
   ·exact h.elim
   ·rename_i q hq
    rw [hq]
    simp only
    obtain ⟨out,h1,h2⟩:=A7T _ _ _ h
    rw [h1];exact h2
  ·exact h.elim
def A5y:Nat→List AV→(List AV→List AV→Prop)→Prop
 | 0,l,k=>k [] l
 | n+1,v::l,k=>A5y n l fun a b=>k (v::a) b
 | _+1,[],k=>k [] []
theorem A8C:∀ (n:Nat) (l:List AV) (k:List AV→List AV→Prop),A5y n l k=k (l.take n) (l.drop n)
 | 0,l,k=>by simp [A5y]
 | n+1,v::l,k=>by rw [A5y,A8C n l];simp
 | n+1,[],k=>by simp [A5y]
def A9T (agg:Bool) (e:Nat):Nat→List AV→(List AV→Prop)→Prop
 | 0,_,k=>k []
 | n+1,out,k=>match agg with
  | true=>A5y e out fun a b=>A9T agg e n b fun r=>k (.agg a::r)
  | false=>match out with
   | v::b=>A9T agg e n b fun r=>k (v::r)
   | []=>False
theorem B4l (agg:Bool) (e n:Nat) (out:List AV) (he:agg=false→e=1):A0D agg e (n+1) out=(if agg then .agg (out.take e) else out.getD 0 .junk)::A0D agg e n (out.drop e):=by
 unfold A0D
 rw [List.range_succ_eq_map,List.map_cons,List.map_map]
 congr 1
 ·cases agg<;>simp
 ·refine List.map_congr_left fun i _=>?_
  cases agg with
  | true =>
   simp only [Function.comp,if_true]
   rw [List.drop_drop,show (i+1) * e=e+i * e from by rw [Nat.add_mul];omega]
  | false =>
   have:=he rfl
   subst this
   simp
theorem A8i {agg:Bool} {e:Nat} (he:agg=false→e=1):∀ (n:Nat) (out:List AV) (k:List AV→Prop),A9T agg e n out k→k (A0D agg e n out)
 | 0,out,k,h=>h
 | n+1,out,k,h=>by
  unfold A9T at h
  rw [B4l agg e n out he]
  cases agg with
  | true =>
   simp only [A8C] at h
   exact A8i he n _ _ h
  | false =>
   simp only at h
   have:=he rfl
   subst this
   split at h
   ·rename_i v b;exact A8i he n _ _ h
   ·exact h.elim
def C4L (fz:Bool) (ty:TypeId) (v:AV) (st:St) (k:KK):Prop :=
 match Nat.blt 0 (cellsOf v).length&&(cellsOf v).all AV.one with
 | true=>(match fz with
  | true=>k (.fptr v 0) st
  | false=>C1m (cellsOf v) 0 fun n=>∀ b,st b=none→k (.optr n b 0 0) (upd st b ⟨ty,n,1,fun _=>v⟩))
 | false=>False
theorem B8g {fz:Bool} {ty:TypeId} {v:AV} {st:St} {k:KK} (h:C4L fz ty v st k):B5I ty v st k:=by
 unfold C4L at h
 split at h
 ·rename_i hb
  simp only [Bool.and_eq_true,Nat.blt_eq] at hb
  cases fz with
  | true=>exact ⟨hb.1,hb.2,.inl h⟩
  | false =>
   simp only [B7D,Nat.zero_add] at h
   exact ⟨hb.1,hb.2,.inr h⟩
 ·exact h.elim
def C6x (fz:Bool) (T:H9) (t:TypeId) (len:Nat) (ps:List (Nat×AV)) (st:St) (k:KK):Prop :=
 match T t with
 | none=>False
 | some r=>match r.desc with
  | .slice el=>match T el with
   | none=>False
   | some q=>match Nat.blt 0 (len * q.size)&&Nat.ble (len * q.size) 16777216&&Nat.beq q.zero.cells.size q.size&&(q.agg||Nat.beq q.size 1) with
    | false=>False
    | true=>B2t (fun i=>some (i * q.size,q.size)) ps ((List.range (len * q.size)).map fun i=>(cellsOf (H4 q.zero)).getD (i % q.size) .junk) fun out=>match out.all AV.one with
    | false=>False
    | true=>A9T q.agg q.size len out fun els=>match fz with
     | false=>k (.arr q.size len (fun i=>els.getD i .junk)) st
     | true=>∀ b,st b=none→k (.own q.size b 0 len) (upd st b ⟨el,q.size,len,fun i=>els.getD i .junk⟩)
  | _=>False
theorem C4O {fz:Bool} {T:H9} {t:TypeId} {len:Nat} {ps:List (Nat×AV)} {st:St} {k:KK} (h:C6x fz T t len ps st k):A0L T t len ps st k:=by
 unfold C6x at h
 unfold A0L
 split at h
 ·exact h.elim
 ·rename_i r hr
  rw [hr]
  simp only
  split at h
  ·rename_i el hd
   rw [hd]
   simp only
   split at h
   ·exact h.elim
   ·rename_i q hq
    rw [hq]
    split at h
    ·exact h.elim
    rename_i hb
    simp only [Bool.and_eq_true,Nat.blt_eq,Nat.ble_eq,Nat.beq_eq,Bool.or_eq_true] at hb
    obtain ⟨⟨⟨h1,h2⟩,h3⟩,h4'⟩:=hb
    have h4:q.agg=false→q.size=1:=fun e=>h4'.resolve_left (by simp [e])
    refine ⟨h1,h2,h3,h4,?_⟩
    obtain ⟨out,ho,h⟩:=A7T _ _ _ h
    rw [ho]
    split at h
    ·exact h.elim
    rename_i hone
    have h:=A8i h4 _ _ _ h
    refine ⟨hone,?_⟩
    cases fz with
    | false=>exact .inl h
    | true=>exact .inr h
  ·exact h.elim
def B1i (r:D3) (cs:List AV) (o:Nat) (k:AV→Prop):Prop :=
 match r.agg with
 | true=>(match Nat.ble (o+r.size) cs.length with
  | true=>A5y o cs fun _ b=>A5y r.size b fun c _=>k (.agg c)
  | false=>False)
 | false=>A8h cs o fun y=>match y with | .junk=>False | y=>k y
theorem B1j {r:D3} {cs:List AV} {o:Nat} {k:AV→Prop} (h:B1i r cs o k):pick r cs o k:=by
 unfold B1i at h
 unfold pick
 split at h
 ·rename_i e
  rw [e]
  split at h
  ·rename_i hb
   simp only [A8C] at h
   exact ⟨by simpa using hb,h⟩
  ·exact h.elim
 ·rename_i e
  rw [e]
  rw [A2R] at h
  simp only
  rw [List.getD_eq_getElem?_getD] at h
  cases hy:cs[o]? with
  | none=>rw [hy] at h;exact h.elim
  | some y=>rw [hy] at h;simp only [Option.getD_some] at h;split at h;exact h.elim;exact h
structure C4K (T:H9) (t:TypeId) (e b i o:Nat) (st:St) (k:KK):Prop where
 out:A2u T t (.optr e b i o) st k
def B5C (T:H9) (t:TypeId) (v:AV) (st:St) (k:KK):Prop :=
 match v with
 | .fptr v o=>(match T t with | some r=>B1i r (cellsOf v) o (fun y=>k y st) | none=>False)
 | .optr e b i o=>C4K T t e b i o st k
 | _=>False
theorem B1g {T:H9} {t:TypeId} {v:AV} {st:St} {k:KK} (h:B5C T t v st k):A2u T t v st k:=by
 unfold B5C at h
 split at h
 ·unfold A2u
  split at h
  ·rename_i hr;rw [hr];exact B1j h
  ·exact h.elim
 ·exact h.out
 ·exact h.elim
structure C2P (T:H9) (t:TypeId) (e b i o:Nat) (v:AV) (st:St) (k:KK):Prop where
 out:(match T t with | some r=>0<r.size | none=>False)∧A6z T t (.optr e b i o) v st k
def C2Q (T:H9) (t:TypeId) (p v:AV) (st:St) (k:KK):Prop:=match p with | .optr e b i o=>C2P T t e b i o v st k | _=>False
structure A5E (T:H9) (t:TypeId) (s x:AV) (st:St) (k:KK):Prop where
 out:A3W T t s x st k
structure xMk (T:H9) (t:TypeId) (l c:AV) (st:St) (k:KK):Prop where
 out:A9B T t l c st k
def B1f (T:H9) (b:Builtin) (args:List AV) (ts:List TypeId) (st:St) (k:KK):Prop :=
 match b with
 | .append=>match args,ts with
  | [s,x],[t,u]=>(match Nat.beq t u with | true=>A5E T t s x st k | false=>False)
  | _,_=>False
 | b=>A1J T b args ts st k
theorem B5z {T:H9} {b:Builtin} {args:List AV} {ts:List TypeId} {st:St} {k:KK} (h:B1f T b args ts st k):A1J T b args ts st k:=by
 unfold B1f at h
 split at h
 ·unfold A1J
  split at h
  ·split at h
   ·rename_i e;exact ⟨Nat.eq_of_beq_eq_true e,h.out⟩
   ·exact h.elim
  ·exact h.elim
 ·exact h
def B3N (P:Program) (T:H9) (M:I8) (r:AV) (name:String) (args:List AV) (st:St) (k:KK):Prop :=
 match r with
 | .iface t v=>match M t name with
  | some (f,none)=>A1o P f (v::args) st k
  | some (f,some el)=>B5C T el v st (fun u st'=>A1o P f (u::args) st' k)
  | none=>False
 | _=>False
theorem B7g {P:Program} {T:H9} {M:I8} {r:AV} {name:String} {args:List AV} {st:St} {k:KK} (h:B3N P T M r name args st k):A5M P T M r name args st k:=by
 unfold B3N at h
 unfold A5M
 split at h
 ·rename_i t v
  simp only
  split at h
  ·rename_i f hf;rw [hf];exact h.out
  ·rename_i f el hf;rw [hf];exact A3X (k:=fun u st'=>A1o P f (u::args) st' k) (fun u hu=>hu.out) (B1g h)
  ·exact h.elim
 ·exact h.elim
def C6v (T:H9) (op:BinOp) (t:TypeId) (x y:AV) (k:AV→Prop):Prop :=
 match x,y,op with
 | .int kk a,.int _ b,.shl=>A4y (decide (b<0)) False (k (.int kk (kk.wrap (a * 2 ^ (min b.toNat kk.bits)))))
 | .int kk a,.int _ b,.shr=>A4y (decide (b<0)) False (k (.int kk (a.fdiv (2 ^ (min b.toNat kk.bits)))))
 | .int kk a,.int k' b,.quo=>match decide (kk=k') with | true=>A4y (decide (b=0)) False (k (.int kk (kk.wrap (a.tdiv b)))) | false=>False
 | .int kk a,.int k' b,.rem=>match decide (kk=k') with | true=>A4y (decide (b=0)) False (k (.int kk (a.tmod b))) | false=>False
 | x,y,op=>match B2z T op t x y with | some z=>k z | none=>False
theorem C4J {T:H9} {op:BinOp} {t:TypeId} {x y:AV} {k:AV→Prop} (h:C6v T op t x y k):match B2z T op t x y with | some z=>k z | none=>False:=by
 unfold C6v at h
 split at h
 ·obtain ⟨h1,h2⟩:=(Z7 _ _ _).1 h
  rename_i kk a k' b
  by_cases hb:b<0
  ·exact (h1 (decide_eq_true hb)).elim
  ·simp only [B2z,A7W,if_neg hb];exact h2 (decide_eq_false hb)
 ·obtain ⟨h1,h2⟩:=(Z7 _ _ _).1 h
  rename_i kk a k' b
  by_cases hb:b<0
  ·exact (h1 (decide_eq_true hb)).elim
  ·simp only [B2z,A7W,if_neg hb];exact h2 (decide_eq_false hb)
 ·rename_i kk a k' b
  by_cases hk:kk=k'
  ·rw [decide_eq_true hk] at h
   obtain ⟨h1,h2⟩:=(Z7 _ _ _).1 h
   by_cases hb:b=0
   ·exact (h1 (decide_eq_true hb)).elim
   ·simp only [B2z,C3l,if_pos hk,if_neg hb];exact h2 (decide_eq_false hb)
  ·rw [decide_eq_false hk] at h;exact h.elim
 ·rename_i kk a k' b
  by_cases hk:kk=k'
  ·rw [decide_eq_true hk] at h
   obtain ⟨h1,h2⟩:=(Z7 _ _ _).1 h
   by_cases hb:b=0
   ·exact (h1 (decide_eq_true hb)).elim
   ·simp only [B2z,C3l,if_pos hk,if_neg hb];exact h2 (decide_eq_false hb)
  ·rw [decide_eq_false hk] at h;exact h.elim
 ·exact h
def C2L (T:H9) (op:BinOp) (t:TypeId) (y:Operand) (vx vy:AV) (k:AV→Prop):Prop :=
 match C3m T op t y vx with
 | some z=>k z
 | none=>C6v T op t vx vy k
theorem C2M {T:H9} {op:BinOp} {t:TypeId} {y:Operand} {vx vy:AV} {k:AV→Prop} (h:C2L T op t y vx vy k):match B3T T op t y vx vy with | some z=>k z | none=>False:=by
 unfold C2L at h
 unfold B3T
 split at h
 ·rename_i z hz;rw [hz];exact h
 ·rename_i hz;rw [hz];exact C4J h
structure C6w (s:ByteArray) (j:Int) (k:AV→Prop):Prop where
 out:∃ h:0≤j∧j.toNat<s.size,k (.int .u8 ((s[j.toNat]'h.2).toNat:Int))
def B7f (T:H9) (t:TypeId) (v i:AV) (k:AV→Prop):Prop :=
 match T t with
 | none=>False
 | some r=>match r.desc,v,i with
  | .string,.str s,.int _ j=>C6w s j k
  | .array n el,.agg cs,.int _ j=>match T el with
   | none=>False
   | some q=>(q.agg=false∧j.toNat * q.size<cs.length∧0≤j∧j<n)∧A8h cs (j.toNat * q.size) k
  | _,_,_=>False
theorem B9V {T:H9} {t:TypeId} {v i:AV} {k:AV→Prop} (h:B7f T t v i k):A6y T t v i k:=by
 unfold B7f at h
 unfold A6y
 split at h
 ·exact h.elim
 rename_i r hr
 rw [hr]
 simp only
 split at h
 ·rename_i s kk j hd
  rw [hd]
  exact h.out
 ·rename_i n el cs kk j hd
  rw [hd]
  split at h
  ·exact h.elim
  ·rename_i q hq
   rw [A2R] at h
   simp only [hq]
   exact h
 ·exact h.elim
def C3X (n:Nat) (k:Nat→Prop):Prop :=
 match n with
 | 0=>k 0 | 1=>k 1 | 2=>k 2 | 3=>k 3 | 4=>k 4 | 5=>k 5 | 6=>k 6 | 7=>k 7 | 8=>k 8 | 9=>k 9 | 10=>k 10 | 11=>k 11 | 12=>k 12 | 13=>k 13 | 14=>k 14 | 15=>k 15 | 16=>k 16 | 17=>k 17 | 18=>k 18 | 19=>k 19 | 20=>k 20 | n=>k n
theorem B7I (n:Nat) (k:Nat→Prop):C3X n k=k n:=by unfold C3X;split<;>rfl
def A6S (T:H9) (s:TypeId) (p:AV) (f:Nat) (k:AV→Prop):Prop :=
 match T s with
 | none=>False
 | some r=>match r.desc with
  | .struct fs=>match fs[f]? with
   | none=>False
   | some fl=>match T fl.type with
    | none=>False
    | some q=>match Nat.blt 0 q.size with
     | true=>(match p with
      | .fptr v o=>C3X (o+fl.offset) fun o'=>k (.fptr v o')
      | .optr e b i o=>C3X (o+fl.offset) fun o'=>k (.optr e b i o')
      | _=>False)
     | false=>False
  | _=>False
theorem B1E {T:H9} {s:TypeId} {p:AV} {f:Nat} {k:AV→Prop} (h:A6S T s p f k):A0A T s p f k:=by
 unfold A6S at h
 unfold A0A
 split at h
 ·exact h.elim
 rename_i r hr
 rw [hr]
 simp only
 split at h
 case h_2=>exact h.elim
 rename_i fs hd
 rw [hd]
 simp only
 split at h
 ·exact h.elim
 rename_i fl hf
 rw [hf]
 simp only
 split at h
 ·exact h.elim
 rename_i q hq
 rw [hq]
 simp only
 split at h
 ·rename_i hb
  refine ⟨by simpa using hb,?_⟩
  split at h
  ·rw [B7I] at h;exact h
  ·rw [B7I] at h;exact h
  ·exact h.elim
 ·exact h.elim
def B7e (T:H9) (s:TypeId) (v:AV) (f:Nat) (k:AV→Prop):Prop :=
 match T s with
 | none=>False
 | some r=>match r.desc with
  | .struct fs=>match fs[f]? with
   | none=>False
   | some fl=>match T fl.type with
    | none=>False
    | some q=>match v with
     | .agg cs=>B1i q cs fl.offset k
     | _=>False
  | _=>False
theorem B9U {T:H9} {s:TypeId} {p:AV} {f:Nat} {k:AV→Prop} (h:B7e T s p f k):A6x T s p f k:=by
 unfold B7e at h
 unfold A6x
 split at h
 ·exact h.elim
 rename_i r hr
 rw [hr]
 simp only
 split at h
 case h_2=>exact h.elim
 rename_i fs hd
 rw [hd]
 simp only
 split at h
 ·exact h.elim
 rename_i fl hf
 rw [hf]
 simp only
 split at h
 ·exact h.elim
 rename_i q hq
 rw [hq]
 simp only
 split at h
 ·exact B1j h
 ·exact h.elim
def xOp (P:Program) (T:H9) (M:I8) (fz:Bool) (op:Op) (A:List AV) (st:St) (k:KK):Prop :=
 match op with
 | .move x=>evK A x fun v=>k v st
 | .assign x=>evK A x fun v=>k v st
 | .pick c x y=>evK A c fun v=>match v with | .bool b=>A4y b (evK A x fun u=>k u st) (evK A y fun u=>k u st) | _=>False
 | .binOp op t x y _=>evK A x fun v=>evK A y fun u=>C2L T op t y v u (fun z=>k z st)
 | .unOp op _ x=>evK A x fun v=>match aUn op v with | some z=>k z st | none=>False
 | .load t x=>evK A x fun v=>B5C T t v st k
 | .store t x y=>evK A x fun v=>evK A y fun u=>C2Q T t v u st k
 | .alloc t=>match T t with | some r=>C4L fz t (H4 r.zero) st k | none=>False
 | .box t x=>evK A x fun v=>C4L fz t v st k
 | .build t ps=>B8D A ps.toList fun vs=>B7d T t vs (fun v=>k v st)
 | .buildSlice t n ps=>match n with
  | 0=>B8D A ps.toList fun vs=>B3W T t vs st k
  | m+1=>B8D A ps.toList fun vs=>C6x fz T t (m+1) vs st k
 | .nilCheck x=>evK A x fun v=>match A5N v with | true=>k v st | false=>False
 | .convert s d x=>evK A x fun v=>match A6Z T s d v with | some z=>k z st | none=>False
 | .makeInterface t x=>evK A x fun v=>match B2Q T t with | true=>k (.iface t v) st | false=>False
 | .makeFunc fn fs cs=>B8E A fs.toList fun us=>B8E A cs.toList fun vs=>k (.fn fn us vs) st
 | .makeSlice t l c=>evK A l fun v=>evK A c fun u=>xMk T t v u st k
 | .slice t x lo hi mx=>evK A x fun v=>C3Y A lo fun l=>C3Y A hi fun h=>C3Y A mx fun m=>A7X T t v l h m (fun v=>k v st)
 | .fieldAddr s x f=>evK A x fun v=>A6S T s v f (fun v=>k v st)
 | .field s x f=>evK A x fun v=>B7e T s v f (fun v=>k v st)
 | .indexAddr t x i=>evK A x fun v=>evK A i fun u=>A1t T t v u (fun v=>k v st)
 | .index t x i=>evK A x fun v=>evK A i fun u=>B7f T t v u (fun v=>k v st)
 | .typeAssert x _ t ok=>evK A x fun v=>match A9i T v t ok with | some z=>k z st | none=>False
 | .extract x i=>evK A x fun v=>A3u v i (fun v=>k v st)
 | .call c=>B8E A c.args.toList fun args=>match c.callee with
  | .builtin b=>B1f T b args c.argTypes.toList st k
  | .invoke r name=>evK A r fun v=>B3N P T M v name args st k
  | .value f=>evK A f fun v=>match v with
   | .fn g fs cs=>(match g with | .func n=>C0q fs args fun l=>C0q l cs fun l=>A1o P n l st k | _=>False)
   | _=>False
 | _=>False
theorem A2L {P:Program} {T:H9} {M:I8} {fz:Bool} {o:Oper} {A:List AV} {st:St} {k:KK} (h:xOp P T M fz o.op A st k):aOp P T M o A st k:=by
 obtain ⟨dst,op,type,pos,after,guard⟩:=o
 unfold aOp
 cases op<;>simp only [xOp,A4g,B7w,A9k,C3Z,A3Z] at h ⊢<;>try exact h
 case alloc t =>
  split at h
  ·rename_i r hr;rw [hr];exact B8g h
  ·exact h.elim
 case box t x=>exact B8g h
 case fieldAddr t x f=>exact B1E h
 case field t x f=>exact B9U h
 case binOp op t x y _=>exact C2M h
 case index t x f=>exact B9V h
 case load t x=>exact B1g h
 case store t x y =>
  unfold C2Q at h
  split at h
  ·rename_i hv;rw [hv];exact h.out
  ·exact h.elim
 case makeSlice t l c=>exact h.out
 case build t ps=>exact B9S h
 case buildSlice t n ps =>
  cases n with
  | zero=>simp only [A9k] at h;exact h
  | succ m=>simp only [A9k] at h;exact C4O h
 case pick c x y =>
  split at h
  ·rename_i b hb
   simp only [hb]
   exact (Z7 _ _ _).1 h
  ·exact h.elim
 case nilCheck x =>
  split at h
  ·rename_i hb;exact ⟨hb,h⟩
  ·exact h.elim
 case makeInterface t x =>
  split at h
  ·rename_i hb;exact ⟨hb,h⟩
  ·exact h.elim
 case call c =>
  obtain ⟨callee,args,ts⟩:=c
  cases callee with
  | builtin b=>exact B5z h
  | invoke r name=>simp only [A4g] at h;exact B7g h
  | value f =>
   simp only [A4g,A3Z] at h
   simp only [A3Y]
   split at h
   ·rename_i g fs cs hf
    rw [hf]
    simp only
    split at h
    ·exact h.out
    ·exact h.elim
   ·exact h.elim
def A5H (ops:List Oper) (o:Oper) (A:List AV) (x y:Prop):Prop :=
 match o.guard with
 | none=>x
 | some (g,want)=>match ops[g]? with
  | none=>y
  | some p=>match p.dst with
   | none=>y
   | some d=>A8h A d fun v=>match v with
    | .bool b=>(match want with | true=>A4y b x y | false=>A4y b y x)
    | .tuple _=>y
    | _=>False
theorem A3P {ops:List Oper} {o:Oper} {A:List AV} {x y:Prop} (h:A5H ops o A x y):∃ b,A0r ops o A=some b∧(b=true→x)∧(b=false→y):=by
 unfold A5H at h
 unfold A0r
 split at h
 ·rename_i hg;exact ⟨true,by simp [hg],fun _=>h,fun e=>by cases e⟩
 ·rename_i g want hg
  simp only [hg]
  split at h
  ·rename_i hp;exact ⟨false,by simp [hp],(fun e=>by cases e),fun _=>h⟩
  ·rename_i p hp
   simp only [hp]
   split at h
   ·rename_i hd;exact ⟨false,by simp [hd],(fun e=>by cases e),fun _=>h⟩
   ·rename_i d hd
    simp only [hd]
    rw [A2R] at h
    rw [List.getD_eq_getElem?_getD] at h
    cases hA:A[d]? with
    | none=>exact ⟨false,by simp,(fun e=>by cases e),fun _=>by rw [hA] at h;exact h.elim⟩
    | some v =>
     rw [hA] at h
     simp only [Option.getD_some] at h
     split at h
     ·rename_i b
      cases want with
      | true=>exact ⟨b,by simp,(Z7 _ _ _).1 h⟩
      | false=>exact ⟨!b,by simp,fun e=>((Z7 _ _ _).1 h).2 (by simpa using e),fun e=>((Z7 _ _ _).1 h).1 (by simpa using e)⟩
     ·exact ⟨false,rfl,(fun e=>by cases e),fun _=>h⟩
     ·exact h.elim
def inF (frz:List Nat) (d:Option Tmp):Bool:=match d with | some p=>frz.contains p | none=>false
def A5j (frz:List Nat) (o1 o2:Oper):Option (Tmp×TypeId×TypeId×Operand) :=
 match o1.guard,o2.guard with
 | none,none=>match o1.op,o1.dst,o2.op with
  | .alloc t,some p,.store u (.tmp q) y=>(match Nat.beq p q&&frz.contains p with | true=>some (p,t,u,y) | false=>none)
  | _,_,_=>none
 | _,_=>none
theorem B6b {rd:Addr→Option Value} {sz:Nat→Nat} {v v':AV} {r:Nat} {c:Value} (he:cellsOf v=cellsOf v') (h:Rep rd sz (.fptr v r) c):Rep rd sz (.fptr v' r) c:=by
 cases h with
 | fptr v r a g hr hg=>exact .fptr v' r a g (fun j hj=>hr j (by rw [he];exact hj)) (fun j y hy=>hg j y (by rw [he];exact hy))
theorem C3F {A:List AV} {st:St} {p b:Nat} {d:Option Tmp} {x y:R9} {v:AV} {e:Nat} (hb:st b=none) (hn:0<y.n) (hv:cellsOf (y.f 0)=cellsOf v) (hp:p<A.length) (hd:d≠some p) :
  A4R (J6 (J6 A (some p) (.optr e b 0 0)) d (.tuple [])) (upd (upd st b x) b y) (J6 (J6 A (some p) (.fptr v 0)) d (.tuple [])) st:=by
 intro w a hA hS
 have hst:upd (upd st b x) b y b=some y:=by simp [upd]
 have hne:∀ c,c≠b→upd (upd st b x) b y c=st c:=fun c hc=>by simp [upd,hc]
 have he:Evo (upd (upd st b x) b y) w st w:=⟨rfl,rfl,rfl,Nat.le_refl _,fun c _ hs=>⟨rfl,by
  by_cases hc:c=b
  ·subst hc;exact hb
  ·rw [hne c hc] at hs;exact hs⟩,fun _=>Nat.le_refl _⟩
 obtain ⟨cs,hok⟩:=hS b y hst
 refine ⟨⟨by have:=hA.len;simp [J6] at this ⊢;cases d<;>simp_all,fun i u hu=>?_,hA.defers⟩,fun c z hz=>?_,he⟩
 ·by_cases hi:i=p
  ·subst hi
   have hpt:(J6 (J6 A (some i) (.optr e b 0 0)) d (.tuple []))[i]?=some (.optr e b 0 0):=by
    cases d with
    | none=>simp [J6,hp]
    | some q=>simp only [J6];rw [List.getElem?_set_ne (fun h=>hd (by rw [h]))];simp [hp]
   have hpt':(J6 (J6 A (some i) (.fptr v 0)) d (.tuple []))[i]?=some (.fptr v 0):=by
    cases d with
    | none=>simp [J6,hp]
    | some q=>simp only [J6];rw [List.getElem?_set_ne (fun h=>hd (by rw [h]))];simp [hp]
   rw [hpt'] at hu
   cases hu
   obtain ⟨c,hc1,hc2⟩:=hA.at_ i _ hpt
   refine ⟨c,hc1,?_⟩
   cases hc2
   have:=B6b hv (A8L (hok.evo he rfl) hb hn)
   simpa using this
  ·have hsame:(J6 (J6 A (some p) (.optr e b 0 0)) d (.tuple []))[i]?=(J6 (J6 A (some p) (.fptr v 0)) d (.tuple []))[i]?:=by
    cases d with
    | none=>simp only [J6];rw [List.getElem?_set_ne (fun h=>hi h.symm),List.getElem?_set_ne (fun h=>hi h.symm)]
    | some q =>
     simp only [J6,List.getElem?_set,List.length_set]
     rw [if_neg (show ¬ p=i from fun h=>hi h.symm),if_neg (show ¬ p=i from fun h=>hi h.symm)]
   rw [←hsame] at hu
   obtain ⟨c,hc1,hc2⟩:=hA.at_ i u hu
   exact ⟨c,hc1,he.rep hc2⟩
 ·have hc:c≠b:=fun h=>by rw [h,hb] at hz;cases hz
  obtain ⟨ds,hd'⟩:=hS c z (by rw [hne c hc];exact hz)
  exact ⟨ds,hd'.evo he rfl⟩
def B6q (d:Option Tmp) (p:Tmp):Bool:=match d with | some q=>!Nat.beq q p | none=>true
def B7J (y:Operand) (p:Tmp):Bool:=match y with | .tmp q=>!Nat.beq q p | _=>true
theorem B8T {d:Option Tmp} {p:Tmp} (h:B6q d p=true):d≠some p:=fun e=>by subst e;simp [B6q] at h
theorem B4x {y:Operand} {p:Tmp} (h:B7J y p=true):y≠.tmp p:=fun e=>by subst e;simp [B7J] at h
def B1h (T:H9) (p:Tmp) (t u:TypeId) (y:Operand) (d:Option Tmp) (A:List AV) (st:St) (k:KA):Prop :=
 match T t,T u with
 | some r,some q=>evK A y fun v=>match Nat.blt p A.length&&B6q d p&&Nat.blt 0 q.size&&Nat.beq (cellsOf (H4 r.zero)).length q.size&&(cellsOf (H4 r.zero)).all AV.one&&Nat.beq (cellsOf v).length q.size&&(cellsOf v).all AV.one&&B7J y p with
   | true=>B3v A p (.fptr v 0) fun A'=>A1l A' d (.tuple []) fun A''=>k A'' st
   | false=>False
 | _,_=>False
theorem B3u {v:AV} {cs:List AV} (h:cs.length=(cellsOf v).length) (h1:cs.all AV.one=true) (h2:0<cs.length):cellsOf (O5 v 0 cs)=cs:=by
 rw [A5u (by omega) h1 h2]
 simp [h]
theorem A5F {P:Program} {T:H9} {M:I8} {frz:List Nat} {o1 o2:Oper} {p:Tmp} {t u:TypeId} {y:Operand} (hp:A5j frz o1 o2=some (p,t,u,y)) {A:List AV} {st:St} {k:KA} (h:B1h T p t u y o2.dst A st k) :
  o1.guard=none∧o2.guard=none∧aOp P T M o1 A st fun v st'=>aOp P T M o2 (J6 A o1.dst v) st' fun v' st''=>A4G k (J6 (J6 A o1.dst v) o2.dst v') st'':=by
 unfold A5j at hp
 split at hp
 case h_2=>cases hp
 rename_i hg1 hg2
 split at hp
 case h_2=>cases hp
 rename_i t' p' u' q' y' ho1 hd1 ho2
 split at hp
 case h_2=>cases hp
 rename_i hb
 cases hp
 simp only [Bool.and_eq_true] at hb
 obtain rfl:=Nat.eq_of_beq_eq_true hb.1
 refine ⟨hg1,hg2,?_⟩
 unfold B1h at h
 split at h
 case h_2=>exact h.elim
 rename_i r q hr hq
 rw [A4g] at h
 split at h
 case h_2=>exact h.elim
 rename_i hb
 simp only [Bool.and_eq_true,Nat.blt_eq,Nat.beq_eq] at hb
 obtain ⟨⟨⟨⟨⟨⟨⟨hlt,hd⟩,hq0⟩,hz1⟩,hz2⟩,hv1⟩,hv2⟩,hy⟩:=hb
 have hd:=B8T hd
 have hy:=B4x hy
 rw [A7J,S8] at h
 have hk:=h
 unfold aOp
 rw [ho1,ho2,hd1]
 simp only [hr,hq]
 refine ⟨by omega,hz2,.inr fun b hb=>⟨hq0,?_⟩⟩
 have hevp:ev (J6 A (some p) (.optr (cellsOf (H4 r.zero)).length b 0 0)) (.tmp p)=.optr (cellsOf (H4 r.zero)).length b 0 0:=by
  simp [ev,J6,hlt]
 have hevy:ev (J6 A (some p) (.optr (cellsOf (H4 r.zero)).length b 0 0)) y=ev A y:=B5X fun t ht hyt=>by
  cases ht;exact hy hyt
 unfold A6z
 simp only [hq,hevp,hevy]
 have hst:upd st b ⟨t,(cellsOf (H4 r.zero)).length,1,fun _=>H4 r.zero⟩ b=some ⟨t,(cellsOf (H4 r.zero)).length,1,fun _=>H4 r.zero⟩:=by simp [upd]
 rw [hst]
 refine ⟨rfl,Nat.one_pos,hv1,hv2,by simp only;omega,_,_,C3F hb Nat.one_pos ?_ hlt hd,hk⟩
 simp only [C9,if_true]
 exact B3u (by omega) hv2 (by omega)
def A7S (frz:List Nat) (o om o2:Oper):Option (Tmp×Operand×Tmp×TypeId×TypeId×Operand) :=
 match om.guard,om.op,om.dst,A5j frz o o2 with
 | none,.assign x,some m,some (p,t,u,y)=>(match !Nat.beq m p&&B7J x p with | true=>some (m,x,p,t,u,y) | false=>none)
 | _,_,_,_=>none
def A9w (T:H9) (m:Tmp) (x:Operand) (p:Tmp) (t u:TypeId) (y:Operand) (d:Option Tmp) (A:List AV) (st:St) (k:KA):Prop :=
 evK A x fun v=>B3v A m v fun A1=>B1h T p t u y d A1 st k
theorem B1q {P:Program} {T:H9} {M:I8} {o:Oper} {t:TypeId} (ho:o.op=.alloc t) {A B:List AV} {st:St} {k:KK} (h:aOp P T M o A st k):aOp P T M o B st k:=by
 unfold aOp at *
 rw [ho] at h ⊢
 exact h
theorem B1G {P:Program} {T:H9} {M:I8} {frz:List Nat} {o1 om o2:Oper} {m p:Tmp} {x:Operand} {t u:TypeId} {y:Operand} (hp:A7S frz o1 om o2=some (m,x,p,t,u,y)) {A:List AV} {st:St} {k:KA} (h:A9w T m x p t u y o2.dst A st k) :
  o1.guard=none∧om.guard=none∧o2.guard=none∧aOp P T M o1 A st fun v st'=>aOp P T M om (J6 A o1.dst v) st' fun v1 st1=>aOp P T M o2 (J6 (J6 A o1.dst v) om.dst v1) st1 fun v' st''=>A4G k (J6 (J6 (J6 A o1.dst v) om.dst v1) o2.dst v') st'':=by
 unfold A7S at hp
 split at hp
 case h_2=>cases hp
 rename_i x' m' p' t' u' y' hg hop hdst hpr
 split at hp
 case h_2=>cases hp
 rename_i hb
 cases hp
 simp only [Bool.and_eq_true,Bool.not_eq_true'] at hb
 have hmp:m≠p:=fun e=>by subst e;simp at hb
 have hxp:x≠.tmp p:=B4x hb.2
 unfold A9w at h
 rw [A4g,A7J] at h
 obtain ⟨g1,g2,h1⟩:=A5F (P:=P) (M:=M) hpr h
 have hal:∃ t0,o1.op=.alloc t0∧o1.dst=some p:=by
  unfold A5j at hpr
  split at hpr
  case h_2=>cases hpr
  split at hpr
  case h_2=>cases hpr
  rename_i t0 p0 u0 q0 y0 ho1 hd1 ho2
  split at hpr
  case h_2=>cases hpr
  cases hpr
  exact ⟨_,ho1,hd1⟩
 obtain ⟨t0,ho1,hd1⟩:=hal
 refine ⟨g1,hg,g2,Q4 (fun v st' h2=>?_) (B1q (B:=A) ho1 h1)⟩
 have e1:ev (J6 A (some p) v) x=ev A x:=B5X fun t ht hx=>by cases ht;exact hxp hx
 have e2:J6 (J6 A (some p) v) (some m) (ev A x)=J6 (A.set m (ev A x)) (some p) v:=by
  have:=A5Y A (x:=some p) (y:=some m) v (ev A x) (fun d hd e=>by cases hd;cases e;exact hmp rfl)
  exact this
 rw [hd1] at h2 ⊢
 rw [hdst]
 unfold aOp
 rw [hop]
 simp only [e1,e2]
 exact h2
def B9W (P:Program) (T:H9) (M:I8) (frz:List Nat) (ops:List Oper):List Oper→List AV→St→KA→Prop
 | [],A,st,k=>k A st
 | o::rest,A,st,k=>match (match rest with | [o2]=>A5j frz o o2 | _=>none) with
  | some (p,t,u,y)=>(match rest with | [o2]=>B1h T p t u y o2.dst A st k | _=>False)
  | none=>match (match rest with | [om,o2]=>A7S frz o om o2 | _=>none) with
  | some (m,x,p,t,u,y)=>(match rest with | [_,o2]=>A9w T m x p t u y o2.dst A st k | _=>False)
  | none=>A5H ops o A
   (xOp P T M (inF frz o.dst) o.op A st fun v st'=>A1l A o.dst v fun A'=>B9W P T M frz ops rest A' st' k)
   (A1l A o.dst (.tuple []) fun A'=>B9W P T M frz ops rest A' st k)
theorem A3v {P:Program} {T:H9} {M:I8} {ops:List Oper} {o:Oper} {rest:List Oper} {A:List AV} {st:St} {k:KA} (hg:o.guard=none) (h:aOp P T M o A st fun v st'=>A7V P T M ops rest (J6 A o.dst v) st' k):A7V P T M ops (o::rest) A st k:=by
 unfold A7V A0r
 rw [hg]
 exact ⟨fun _=>h,fun e=>by cases e⟩
theorem A9v {P:Program} {T:H9} {M:I8} {frz:List Nat} {ops:List Oper}:∀ (l:List Oper) (A:List AV) (st:St) (k:KA),B9W P T M frz ops l A st k→A7V P T M ops l A st (A4G k)
 | [],A,st,k,h=>⟨A,st,A4R.refl A st,h⟩
 | o::rest,A,st,k,h=>by
  unfold B9W at h
  split at h
  ·rename_i p t u y hp
   split at hp
   ·rename_i o2
    obtain ⟨g1,g2,h1⟩:=A5F (P:=P) (M:=M) hp h
    exact A3v g1 (Q4 (fun v st' h2=>A3v g2 h2) h1)
   ·cases hp
  ·split at h
   ·rename_i m x p t u y hp
    split at hp
    ·rename_i om o2
     obtain ⟨g1,g2,g3,h1⟩:=B1G (P:=P) (M:=M) hp h
     exact A3v g1 (Q4 (fun v st' h2=>A3v g2 (Q4 (fun v1 st1 h3=>A3v g3 h3) h2)) h1)
    ·cases hp
   obtain ⟨b,hb,h1,h2⟩:=A3P h
   unfold A7V
   rw [hb]
   refine ⟨fun e=>Q4 (fun v st' hk=>?_) (A2L (h1 e)),fun e=>?_⟩
   ·rw [S8] at hk;exact A9v rest _ _ _ hk
   ·have:=h2 e;rw [S8] at this;exact A9v rest _ _ _ this
def A9W (op:Op):Bool:=A0E op||(match op with | .load ..=>true | _=>false)
theorem B4F {r:D3} {cs:List AV} {i:Nat} {k:AV→Prop} (h:pick r cs i k):∃ v,(pick r cs i fun v'=>v'=v)∧k v:=by
 unfold pick at *
 split at h
 ·exact ⟨_,⟨h.1,rfl⟩,h.2⟩
 ·split at h
  ·exact ⟨_,rfl,h⟩
  ·exact h.elim
theorem B2M {P:Program} {T:H9} {M:I8} {o:Oper} (hd:A9W o.op=true) {A:List AV} {st:St} {k:KK} (h:aOp P T M o A st k):∃ v,(aOp P T M o A st fun v' s=>v'=v∧s=st)∧k v st:=by
 unfold aOp at *
 split at h
 all_goals repeat' first
  | exact h.elim
  | exact ⟨_,⟨rfl,rfl⟩,h⟩
  | exact ⟨_,⟨h.1,rfl,rfl⟩,h.2⟩
  | exact ⟨_,⟨h.1,h.2.1,rfl,rfl⟩,h.2.2⟩
  | exact ⟨_,⟨h.1,h.2.1,h.2.2.1,rfl,rfl⟩,h.2.2.2⟩
  | exact ⟨_,⟨h.1,h.2.1,h.2.2.1,h.2.2.2.1,rfl,rfl⟩,h.2.2.2.2⟩
  | (obtain ⟨v,h1,h2⟩:=B4F h;exact ⟨v,A3E (fun v' e=>⟨e,rfl⟩) h1,h2⟩)
  | (obtain ⟨v,h1,h2⟩:=B4F h.2.2;exact ⟨v,⟨h.1,h.2.1,A3E (fun v' e=>⟨e,rfl⟩) h1⟩,h2⟩)
  | (obtain ⟨h0,h⟩:=h;split at h<;>first | exact h.elim | exact ⟨_,⟨h0,rfl,rfl⟩,h⟩)
  | (rename_i b hb;cases b;exact ⟨_,⟨(fun e=>by cases e),fun _=>⟨rfl,rfl⟩⟩,h.2 rfl⟩;exact ⟨_,⟨fun _=>⟨rfl,rfl⟩,fun e=>by cases e⟩,h.1 rfl⟩)
  | split at h
  | unfold A2u at h ⊢ | unfold A6w at h ⊢ | unfold A7X at h ⊢ | unfold A0A at h ⊢ | unfold A6x at h ⊢ | unfold A1t at h ⊢ | unfold A6y at h ⊢ | unfold A3u at h ⊢ | unfold A1J at h ⊢
  | (exfalso;clear h;simp_all [A9W,A0E];done)
def B1F (P:Program) (T:H9) (M:I8) (frz:List Nat) (ops:List Oper) (eff ext:List Nat):List Nat→List AV→St→KA→Prop
 | [],A,st,k=>k A st
 | i::ord,A,st,k=>match ops[i]? with
  | none=>False
  | some o=>match (match ord with | [j]=>(match ops[j]? with | some o2=>(match eff.contains i&&eff.contains j with | true=>A5j frz o o2 | false=>none) | none=>none) | _=>none) with
   | some (p,t,u,y)=>(match ord with | [j]=>(match ops[j]? with | some o2=>B1h T p t u y o2.dst A st k | none=>False) | _=>False)
   | none=>A5H ops o A
    (match eff.contains i with
     | true=>xOp P T M (inF frz o.dst) o.op A st fun v st'=>A1l A o.dst v fun A'=>B1F P T M frz ops eff ext ord A' st' k
     | false=>match ext.contains i with
      | true=>∃ v,(∀ st',Ext st st'→xOp P T M (inF frz o.dst) o.op A st' fun v' st''=>v'=v∧st''=st')∧A1l A o.dst v fun A'=>B1F P T M frz ops eff ext ord A' st k
      | false=>match A9W o.op with
       | true=>xOp P T M (inF frz o.dst) o.op A st fun v _=>A1l A o.dst v fun A'=>B1F P T M frz ops eff ext ord A' st k
       | false=>∃ v,(xOp P T M (inF frz o.dst) o.op A st fun v' st''=>v'=v∧st''=st)∧A1l A o.dst v fun A'=>B1F P T M frz ops eff ext ord A' st k)
    (A1l A o.dst (.tuple []) fun A'=>B1F P T M frz ops eff ext ord A' st k)
theorem A6h {P:Program} {T:H9} {M:I8} {frz:List Nat} {ops:List Oper} {eff ext:List Nat}:∀ (ord:List Nat) (A:List AV) (st:St) (k:KA),B1F P T M frz ops eff ext ord A st k→A9P P T M ops eff ext ord A st (A4G k)
 | [],A,st,k,h=>⟨A,st,A4R.refl A st,h⟩
 | i::ord,A,st,k,h=>by
  unfold B1F at h
  cases ho:ops[i]? with
  | none=>rw [ho] at h;exact h.elim
  | some o =>
   rw [ho] at h
   simp only at h
   split at h
   ·rename_i p t u y hp
    split at hp
    ·rename_i j
     split at hp
     ·rename_i o2 ho2
      split at hp
      ·rename_i hee
       simp only [Bool.and_eq_true] at hee
       simp only [ho2] at h
       obtain ⟨g1,g2,h1⟩:=A5F (P:=P) (M:=M) hp h
       unfold A9P
       rw [ho]
       have w1:A0r ops o A=some true:=by unfold A0r;rw [g1]
       simp only [w1]
       refine ⟨fun _=>?_,fun e=>by cases e⟩
       rw [hee.1]
       refine Q4 (fun v st' h2=>?_) h1
       unfold A9P
       rw [ho2]
       have w2:A0r ops o2 (J6 A o.dst v)=some true:=by unfold A0r;rw [g2]
       simp only [w2]
       refine ⟨fun _=>?_,fun e=>by cases e⟩
       rw [hee.2]
       exact Q4 (fun v' st'' h3=>h3) h2
      ·cases hp
     ·cases hp
    ·cases hp
   ·unfold A9P
    rw [ho]
    simp only
    obtain ⟨b,hb,h1,h2⟩:=A3P h
    rw [hb]
    simp only
    refine ⟨fun e=>?_,fun e=>?_⟩
    ·have h1:=h1 e
     split at h1
     ·rename_i hc
      rw [hc]
      exact Q4 (fun v st' hk=>by rw [S8] at hk;exact A6h ord _ _ _ hk) (A2L h1)
     ·rename_i hc
      rw [hc]
      simp only
      split at h1
      ·rename_i hx
       rw [hx]
       obtain ⟨v,hv,hk⟩:=h1
       rw [S8] at hk
       exact ⟨v,fun st' hs=>A2L (hv st' hs),A6h ord _ _ _ hk⟩
      ·rename_i hx
       rw [hx]
       simp only
       split at h1
       ·rename_i hdet
        obtain ⟨v,hv,hk⟩:=B2M hdet (A2L h1)
        rw [S8] at hk
        exact ⟨v,hv,A6h ord _ _ _ hk⟩
       ·obtain ⟨v,hv,hk⟩:=h1
        rw [S8] at hk
        exact ⟨v,A2L hv,A6h ord _ _ _ hk⟩
    ·have:=h2 e
     rw [S8] at this
     exact A6h ord _ _ _ this
def B5B (P:Program) (T:H9) (M:I8) (frz:List Nat) (ops:List Oper) (i:Nat) (K:KA) (A:List AV) (st:St):Prop :=
 match ops[i]? with
 | none=>False
 | some o=>A5H ops o A (xOp P T M (inF frz o.dst) o.op A st fun v st'=>A1l A o.dst v fun A'=>K A' st') (A1l A o.dst (.tuple []) fun A'=>K A' st)
def C4M (P:Program) (T:H9) (M:I8) (frz:List Nat) (ops:List Oper) (i:Nat) (K:KA) (A:List AV) (st:St):Prop :=
 match ops[i]? with
 | none=>False
 | some o=>A5H ops o A
  (match A9W o.op with
   | true=>xOp P T M (inF frz o.dst) o.op A st fun v _=>A1l A o.dst v fun A'=>K A' st
   | false=>∃ v,(xOp P T M (inF frz o.dst) o.op A st fun v' st''=>v'=v∧st''=st)∧A1l A o.dst v fun A'=>K A' st)
  (A1l A o.dst (.tuple []) fun A'=>K A' st)
def A6u (P:Program) (T:H9) (M:I8) (frz:List Nat) (ops:List Oper):OT→List AV→St→KA→Prop
 | .done,A,st,k=>k A st
 | .gen i t,A,st,k=>B5B P T M frz ops i (fun A' st'=>A6u P T M frz ops t A' st' k) A st
 | .qui i t,A,st,k=>C4M P T M frz ops i (fun A' st'=>A6u P T M frz ops t A' st' k) A st
 | .two i j t u,A,st,k=>B5B P T M frz ops i (fun A' st'=>A6u P T M frz ops t A' st' k) A st∧B5B P T M frz ops j (fun A' st'=>A6u P T M frz ops u A' st' k) A st
theorem B3M {P:Program} {T:H9} {M:I8} {frz:List Nat} {ops:List Oper} {i:Nat} {K K':KA} {A:List AV} {st:St} (hK:∀ A st,K A st→K' A st) (h:B5B P T M frz ops i K A st):B5S P T M ops i K' A st:=by
 unfold B5B at h
 unfold B5S
 cases ho:ops[i]? with
 | none=>rw [ho] at h;exact h.elim
 | some o =>
  rw [ho] at h
  simp only at h ⊢
  obtain ⟨b,hb,h1,h2⟩:=A3P h
  rw [hb]
  refine ⟨fun e=>?_,fun e=>?_⟩
  ·exact Q4 (fun v st' hk=>by rw [S8] at hk;exact hK _ _ hk) (A2L (h1 e))
  ·have:=h2 e
   rw [S8] at this;exact hK _ _ this
theorem C4N {P:Program} {T:H9} {M:I8} {frz:List Nat} {ops:List Oper} {i:Nat} {K K':KA} {A:List AV} {st:St} (hK:∀ A st,K A st→K' A st) (h:C4M P T M frz ops i K A st):C3s P T M ops i K' A st:=by
 unfold C4M at h
 unfold C3s
 cases ho:ops[i]? with
 | none=>rw [ho] at h;exact h.elim
 | some o =>
  rw [ho] at h
  simp only at h ⊢
  obtain ⟨b,hb,h1,h2⟩:=A3P h
  rw [hb]
  refine ⟨fun e=>?_,fun e=>?_⟩
  ·have h1:=h1 e
   split at h1
   ·rename_i hdet
    obtain ⟨v,hv,hk⟩:=B2M hdet (A2L h1)
    rw [S8] at hk
    exact ⟨v,hv,hK _ _ hk⟩
   ·obtain ⟨v,hv,hk⟩:=h1
    rw [S8] at hk
    exact ⟨v,A2L hv,hK _ _ hk⟩
  ·have:=h2 e
   rw [S8] at this;exact hK _ _ this
theorem A5G {P:Program} {T:H9} {M:I8} {frz:List Nat} {ops:List Oper}:∀ (t:OT) (A:List AV) (st:St) (k:KA),A6u P T M frz ops t A st k→A7h P T M ops t A st (A4G k)
 | .done,A,st,k,h=>⟨A,st,A4R.refl A st,h⟩
 | .gen i t,A,st,k,h=>B3M (fun A st h=>A5G t A st k h) h
 | .qui i t,A,st,k,h=>C4N (fun A st h=>A5G t A st k h) h
 | .two i j t u,A,st,k,h=>⟨B3M (fun A st h=>A5G t A st k h) h.1,B3M (fun A st h=>A5G u A st k h) h.2⟩
def xDr (P:Program) (T:H9) (M:I8) (frz:List Nat) (ops:List Oper) (A:List AV) (st:St) (k:KA):Prop :=
 ∃ eff ext ord:List Nat,match ord with
  | []=>∃ t:OT,(Region.noSelect ops.toArray&&okT ops.toArray eff t ops.length (Array.replicate ops.length false))=true∧A6u P T M frz ops t A st k
  | _::_=>(Region.noSelect ops.toArray&&B0p ops.toArray eff ext ord (Array.replicate ops.length false)&&(ord.length==ops.length))=true∧B1F P T M frz ops eff ext ord A st k
theorem C2N {P:Program} {T:H9} {M:I8} {frz:List Nat} {ops:List Oper} {A:List AV} {st:St} {k:KA} (h:xDr P T M frz ops A st k):Dr P T M ops A st (A4G k):=by
 obtain ⟨eff,ext,ord,h⟩:=h
 refine ⟨eff,ext,ord,?_⟩
 split at h
 ·obtain ⟨t,h1,h2⟩:=h
  exact ⟨t,h1,A5G t _ _ _ h2⟩
 ·exact ⟨h.1,A6h _ _ _ _ h.2⟩
def B0H:Nat→(List AV→Prop)→Prop
 | 0,k=>k []
 | n+1,k=>B0H n fun A=>k (.junk::A)
theorem B0I:∀ (n:Nat) (k:List AV→Prop),B0H n k=k (List.replicate n .junk)
 | 0,k=>rfl
 | n+1,k=>by rw [B0H,B0I n];rfl
def A7K:List Nat→List AV→List AV→(List AV→Prop)→Prop
 | i::is,v::vs,A,k=>B3v A i v fun A'=>A7K is vs A' k
 | _,_,A,k=>k A
theorem B0P:∀ (is:List Nat) (vs A:List AV) (k:List AV→Prop),A7K is vs A k=k ((is.zip vs).foldl (fun A p=>A.set p.1 p.2) A)
 | [],vs,A,k=>by simp [A7K]
 | i::is,[],A,k=>by simp [A7K]
 | i::is,v::vs,A,k=>by simp only [A7K,A7J,B0P is vs,List.zip_cons_cons,List.foldl_cons]
def A2S (A:List AV):List Nat→(List AV→Prop)→Prop
 | [],k=>k []
 | i::is,k=>A8h A i fun v=>A2S A is fun vs=>k (v::vs)
theorem A1L (A:List AV):∀ (is:List Nat) (k:List AV→Prop),A2S A is k=k (is.map fun i=>A.getD i AV.junk)
 | [],k=>rfl
 | i::is,k=>by simp only [A2S,A2R,A1L A is,List.map_cons]
def C2O (T:H9) (A:List AV) (st:St) (r:ResultVar) (k:AV→Prop):Prop :=
 match r with
 | .tmp t=>A8h A t k
 | .cell t ty=>A8h A t fun p=>B5C T ty p st (fun v _=>k v)
def B5D (T:H9) (A:List AV) (st:St):List ResultVar→(List AV→Prop)→Prop
 | [],k=>k []
 | r::rs,k=>C2O T A st r fun v=>B5D T A st rs fun vs=>k (v::vs)
theorem B1k {T:H9} {A:List AV} {st:St}:∀ (rs:List ResultVar) (k:List AV→Prop),B5D T A st rs k→A8G T A st rs k
 | [],k,h=>h
 | r::rs,k,h=>by
  simp only [B5D] at h
  simp only [A8G]
  cases r with
  | tmp t=>simp only [C2O,B3U,A2R] at h ⊢;exact B1k rs _ h
  | cell t ty=>simp only [C2O,B3U,A2R] at h ⊢;exact A3X (fun v hv=>B1k rs _ hv) (B1g h)
def B9T (T:H9) (rs:List ResultVar) (post:KK):Exit→KA:=fun e A st=>match e with
 | .normal=>B5D T A st rs fun vs=>post (A9e vs) st
 | .ret=>B5D T A st rs fun vs=>post (A9e vs) st
 | _=>False
def C4G:Nat→(List AV→Prop)→Prop
 | 0,k=>k []
 | n+1,k=>C4G n fun A=>k (.tuple []::A)
theorem B8c:∀ (n:Nat) (k:List AV→Prop),C4G n k=k (List.replicate n (.tuple []))
 | 0,k=>rfl
 | n+1,k=>by rw [C4G,B8c n];rfl
def A3l:List AV→Nat→(List AV→Prop)→Prop
 | [],n,k=>C4G n k
 | v::vs,n,k=>A3l vs (n - 1) fun A=>k (v::A)
theorem B2q:∀ (args:List AV) (n:Nat) (k:List AV→Prop),A3l args n k=k (start args n)
 | [],n,k=>by rw [A3l,B8c];simp [start]
 | v::vs,n,k=>by
  rw [A3l,B2q vs (n - 1)]
  unfold start
  simp only [List.length_cons,List.cons_append]
  rw [show n - 1 - vs.length=n - (vs.length+1) from by omega]
noncomputable def C2S (P:Program) (T:H9) (M:I8) (frz:List Nat) (ops:List Oper) (l:List Oper):List AV→St→KA→Prop :=
 List.rec (motive:=fun _=>List AV→St→KA→Prop) (fun A st k=>k A st)
  (fun o rest ih A st k=>match (match rest with | [o2]=>A5j frz o o2 | _=>none) with
   | some (p,t,u,y)=>(match rest with | [o2]=>B1h T p t u y o2.dst A st k | _=>False)
   | none=>match (match rest with | [om,o2]=>A7S frz o om o2 | _=>none) with
   | some (m,x,p,t,u,y)=>(match rest with | [_,o2]=>A9w T m x p t u y o2.dst A st k | _=>False)
   | none=>A5H ops o A
    (xOp P T M (inF frz o.dst) o.op A st fun v st'=>A1l A o.dst v fun A'=>ih A' st' k)
    (A1l A o.dst (.tuple []) fun A'=>ih A' st k)) l
theorem B3O {P:Program} {T:H9} {M:I8} {frz:List Nat} {ops:List Oper}:∀ l,C2S P T M frz ops l=B9W P T M frz ops l
 | []=>rfl
 | o::rest=>by
  funext A st k
  conv=>rhs;unfold B9W
  rw [←B3O rest]
  rfl
noncomputable def C9M (P:Program) (T:H9) (M:I8) (frz:List Nat) (ops:List Oper) (eff ext:List Nat) (ord:List Nat):List AV→St→KA→Prop :=
 List.rec (motive:=fun _=>List AV→St→KA→Prop) (fun A st k=>k A st)
  (fun i ord ih A st k=>match ops[i]? with
   | none=>False
   | some o=>match (match ord with | [j]=>(match ops[j]? with | some o2=>(match eff.contains i&&eff.contains j with | true=>A5j frz o o2 | false=>none) | none=>none) | _=>none) with
    | some (p,t,u,y)=>(match ord with | [j]=>(match ops[j]? with | some o2=>B1h T p t u y o2.dst A st k | none=>False) | _=>False)
    | none=>A5H ops o A
     (match eff.contains i with
      | true=>xOp P T M (inF frz o.dst) o.op A st fun v st'=>A1l A o.dst v fun A'=>ih A' st' k
      | false=>match ext.contains i with
       | true=>∃ v,(∀ st',Ext st st'→xOp P T M (inF frz o.dst) o.op A st' fun v' st''=>v'=v∧st''=st')∧A1l A o.dst v fun A'=>ih A' st k
       | false=>match A9W o.op with
        | true=>xOp P T M (inF frz o.dst) o.op A st fun v _=>A1l A o.dst v fun A'=>ih A' st k
        | false=>∃ v,(xOp P T M (inF frz o.dst) o.op A st fun v' st''=>v'=v∧st''=st)∧A1l A o.dst v fun A'=>ih A' st k)
     (A1l A o.dst (.tuple []) fun A'=>ih A' st k)) ord
theorem B8h {P:Program} {T:H9} {M:I8} {frz:List Nat} {ops:List Oper} {eff ext:List Nat}:∀ l,C9M P T M frz ops eff ext l=B1F P T M frz ops eff ext l
 | []=>rfl
 | i::ord=>by
  funext A st k
  conv=>rhs;unfold B1F
  rw [←B8h ord]
  rfl
noncomputable def C5h (P:Program) (T:H9) (M:I8) (frz:List Nat) (ops:List Oper) (t:OT):List AV→St→KA→Prop :=
 OT.rec (motive:=fun _=>List AV→St→KA→Prop) (fun A st k=>k A st)
  (fun i _ ih A st k=>B5B P T M frz ops i (fun A' st'=>ih A' st' k) A st)
  (fun i _ ih A st k=>C4M P T M frz ops i (fun A' st'=>ih A' st' k) A st)
  (fun i j _ _ iht ihu A st k=>B5B P T M frz ops i (fun A' st'=>iht A' st' k) A st∧B5B P T M frz ops j (fun A' st'=>ihu A' st' k) A st) t
theorem A5J {P:Program} {T:H9} {M:I8} {frz:List Nat} {ops:List Oper}:∀ t,C5h P T M frz ops t=A6u P T M frz ops t
 | .done=>rfl
 | .gen i t=>by
  funext A st k
  conv=>rhs;unfold A6u
  rw [←A5J t];rfl
 | .qui i t=>by
  funext A st k
  conv=>rhs;unfold A6u
  rw [←A5J t];rfl
 | .two i j t u=>by
  funext A st k
  conv=>rhs;unfold A6u
  rw [←A5J t,←A5J u];rfl
noncomputable def yDr (P:Program) (T:H9) (M:I8) (frz:List Nat) (ops:List Oper) (A:List AV) (st:St) (k:KA):Prop :=
 ∃ eff ext ord:List Nat,match ord with
  | []=>∃ t:OT,(Region.noSelect ops.toArray&&okT ops.toArray eff t ops.length (Array.replicate ops.length false))=true∧C5h P T M frz ops t A st k
  | _::_=>(Region.noSelect ops.toArray&&B0p ops.toArray eff ext ord (Array.replicate ops.length false)&&(ord.length==ops.length))=true∧C9M P T M frz ops eff ext ord A st k
theorem C2R {P:Program} {T:H9} {M:I8} {frz:List Nat} {ops:List Oper} {A:List AV} {st:St} {k:KA}:yDr P T M frz ops A st k=xDr P T M frz ops A st k:=by
 unfold yDr xDr
 simp only [B8h,A5J]
theorem A0 (st:St) (b:Nat) (x:R9):upd st b x b=some x:=by simp [upd]
theorem A6 {st:St} {b c:Nat} {x:R9} (h:c≠b):upd st b x c=st c:=by simp [upd,h]
theorem B5y {st:St} {b c:Nat} {x:R9} (h:upd st b x c=none):c≠b∧st c=none:=by
 unfold upd at h
 split at h
 ·cases h
 ·rename_i e;exact ⟨e,h⟩
theorem A6g (st:St) (b:Nat) (x y:R9):upd (upd st b x) b y=upd st b y:=funext fun c=>by unfold upd;split<;>rfl
theorem A2O {st:St} {b:Nat} (h:st b=none) (x:R9):del (upd st b x) b=st:=funext fun c=>by
 unfold del upd
 split
 ·rename_i e;rw [e,h]
 ·rfl
theorem call {P:Program} {f:FuncId} {args:List AV} {st:St} {post k:KK} (h:S P f args st post) (hk:∀ v st',post v st'→k v st'):A1o P f args st k:=by
 refine ⟨?_⟩;unfold A2t;exact ⟨args,st,B0.refl _ _,h.mono hk⟩
theorem C5 {P:Program} {f:FuncId} {args:List AV} {st:St} {v:AV} {k:KK} (h:S P f args st fun v' st'=>v'=v∧st'=st) (hk:k v st):A1o P f args st k :=
 call h fun v' st' ⟨e1,e2⟩=>by rw [e1,e2];exact hk
theorem F4 {P:Program} {f:FuncId} {args args':List AV} {st st':St} {k:KK} (hs:B0 args st args' st') (h:A1o P f args' st' k):A1o P f args st k:=by
 refine ⟨?_⟩
 have h:=h.out
 unfold A2t at *
 obtain ⟨a,s,h1,h2⟩:=h
 exact ⟨a,s,hs.trans h1,h2⟩
end Go.Ab
