/- Part 12 of the proof: contracts of the functions that the law reaches -/
import Derived.Test.YthdimklenlikgaaGreatDw11
set_option linter.unusedVariables false
set_option linter.unusedSimpArgs false
namespace Go.Ab
open Go
def A8C:List AV→Nat→(AV→Prop)→Prop
 | [],_,k=>k .junk
 | a::_,0,k=>k a
 | _::xs,n+1,k=>A8C xs n k
def B2R:List AV→Nat→AV→(List AV→Prop)→Prop
 | [],_,_,k=>k []
 | _::xs,0,v,k=>k (v::xs)
 | a::xs,n+1,v,k=>B2R xs n v fun xs'=>k (a::xs')
def A0U (A:List AV) (d:Option Tmp) (v:AV) (k:List AV→Prop):Prop:=match d with | some i=>B2R A i v k | none=>k A
theorem A3M:∀ (A:List AV) (i:Nat) (k:AV→Prop),A8C A i k=k (A.getD i .junk)
 | [],_,k=>by simp [A8C]
 | a::xs,0,k=>by simp [A8C]
 | a::xs,n+1,k=>by rw [A8C,A3M xs n k];simp
theorem A7n:∀ (A:List AV) (i:Nat) (v:AV) (k:List AV→Prop),B2R A i v k=k (A.set i v)
 | [],_,v,k=>by simp [B2R]
 | a::xs,0,v,k=>by simp [B2R]
 | a::xs,n+1,v,k=>by rw [B2R,A7n xs n v];simp
theorem Q7 (A:List AV) (d:Option Tmp) (v:AV) (k:List AV→Prop):A0U A d v k=k (I4 A d v):=by
 cases d with
 | none=>rfl
 | some i=>exact A7n A i v k
def C5d (v:Value) (k:AV→Prop):Prop :=
 match v with
 | .bool b=>k (.bool b)
 | .int kk n=>k (.int kk n)
 | .string s=>k (.str s)
 | .pointer a=>(match a with | none=>k .nilp | some _=>k .junk)
 | .slice a l c=>(match a with | none=>(match l,c with | 0,0=>k .emp | _,_=>k .junk) | some _=>k .junk)
 | .nilFunc=>k .nilf
 | .nilIface=>k .nili
 | v=>k (K3 v)
theorem C2h (v:Value) (k:AV→Prop):C5d v k=k (K3 v):=by
 cases v with
 | pointer a=>cases a<;>rfl
 | slice a l c=>cases a with
  | none=>cases l<;>cases c<;>rfl
  | some a=>rfl
 | _=>rfl
def evK (A:List AV) (x:Operand) (k:AV→Prop):Prop :=
 match x with
 | .tmp t=>A8C A t k
 | .const v=>C5d v k
 | .global _=>k .junk
 | .func f=>k (.fn (.func f) [] [])
theorem A2W (A:List AV) (x:Operand) (k:AV→Prop):evK A x k=k (ev A x):=by
 cases x with
 | tmp t=>exact A3M A t k
 | const v=>exact C2h v k
 | _=>rfl
def B7Q (A:List AV):List Operand→(List AV→Prop)→Prop
 | [],k=>k []
 | x::xs,k=>evK A x fun v=>B7Q A xs fun vs=>k (v::vs)
theorem B6M (A:List AV):∀ (xs:List Operand) (k:List AV→Prop),B7Q A xs k=k (xs.map (ev A))
 | [],k=>rfl
 | x::xs,k=>by simp only [B7Q,A2W,B6M A xs,List.map_cons]
def B7P (A:List AV):List (Nat×Operand)→(List (Nat×AV)→Prop)→Prop
 | [],k=>k []
 | p::ps,k=>evK A p.2 fun v=>B7P A ps fun vs=>k ((p.1,v)::vs)
theorem A8L (A:List AV):∀ (ps:List (Nat×Operand)) (k:List (Nat×AV)→Prop),B7P A ps k=k (ps.map fun p=>(p.1,ev A p.2))
 | [],k=>rfl
 | p::ps,k=>by simp only [B7P,A2W,A8L A ps,List.map_cons]
def C2m (A:List AV) (x:Option Operand) (k:Option AV→Prop):Prop:=match x with | none=>k none | some y=>evK A y fun v=>k (some v)
theorem C2n (A:List AV) (x:Option Operand) (k:Option AV→Prop):C2m A x k=k (x.map (ev A)):=by
 cases x with
 | none=>rfl
 | some y=>exact A2W A y _
def A2K (b:Bool) (x y:Prop):Prop:=match b with | true=>x | false=>y
theorem W1 (b:Bool) (x y:Prop):A2K b x y↔(b=true→x)∧(b=false→y):=by cases b<;>simp [A2K]
theorem C3 {b:Bool} {x y:Prop} (h1:b=true→x) (h2:b=false→y):A2K b x y:=by cases b;exact h2 rfl;exact h1 rfl
structure A1C (P:Program) (f:FuncId) (args:List AV) (st:St) (k:KK):Prop where
 out:A2k P f args st k
def B9o:List AV→List AV→(List AV→Prop)→Prop
 | [],b,k=>k b
 | v::a,b,k=>B9o a b fun l=>k (v::l)
theorem A3F:∀ (a b:List AV) (k:List AV→Prop),B9o a b k=k (a++b)
 | [],b,k=>rfl
 | v::a,b,k=>by rw [B9o,A3F a b];rfl
def B9V:List AV→Nat→(Nat→Prop)→Prop
 | [],n,k=>k n
 | _::l,n,k=>B9V l (n+1) k
theorem B6T:∀ (l:List AV) (n:Nat) (k:Nat→Prop),B9V l n k=k (n+l.length)
 | [],n,k=>by simp [B9V]
 | a::l,n,k=>by rw [B9V,B6T l];simp [Nat.add_assoc,Nat.add_comm 1]
def B4b:List AV→List AV→(List AV→Prop)→Prop
 | cs,[],k=>k cs
 | _::cs,v::new,k=>B4b cs new fun r=>k (v::r)
 | [],_::_,k=>k []
def A7p:List AV→Nat→List AV→(List AV→Prop)→Prop
 | cs,0,new,k=>B4b cs new k
 | a::cs,n+1,new,k=>A7p cs n new fun r=>k (a::r)
 | [],_+1,_,k=>k []
theorem B4c:∀ (cs new:List AV) (k:List AV→Prop),new.length≤cs.length→B4b cs new k=k (new++cs.drop new.length)
 | cs,[],k,_=>by simp [B4b]
 | c::cs,v::new,k,h=>by rw [B4b,B4c cs new _ (by simpa using h)];simp
 | [],v::new,k,h=>by simp at h
theorem B0n:∀ (cs:List AV) (n:Nat) (new:List AV) (k:List AV→Prop),n+new.length≤cs.length→A7p cs n new k=k (cs.take n++new++cs.drop (n+new.length))
 | cs,0,new,k,h=>by rw [A7p,B4c cs new k (by omega)];simp
 | a::cs,n+1,new,k,h=>by
  rw [A7p,B0n cs n new _ (by simp at h;omega)]
  simp [show n+1+new.length=(n+new.length)+1 from by omega]
 | [],n+1,new,k,h=>by simp at h
def B1K (place:Nat→Option (Nat×Nat)):List (Nat×AV)→List AV→(List AV→Prop)→Prop
 | [],cells,k=>k cells
 | (i,v)::rest,cells,k=>match place i with
  | none=>False
  | some (off,size)=>match Nat.beq (cellsOf v).length size&&Nat.ble (off+size) cells.length&&(cellsOf v).all AV.one&&Nat.blt 0 size with
   | true=>A7p cells off (cellsOf v) fun cells'=>B1K place rest cells' k
   | false=>False
theorem A7v {place:Nat→Option (Nat×Nat)}:∀ (ps:List (Nat×AV)) (cells:List AV) (k:List AV→Prop),B1K place ps cells k→∃ out,A4d place cells ps=some out∧k out
 | [],cells,k,h=>⟨cells,rfl,h⟩
 | (i,v)::ps,cells,k,h=>by
  unfold B1K at h
  unfold A4d
  split at h
  ·exact h.elim
  ·rename_i off size hp
   rw [hp]
   simp only
   split at h
   ·rename_i hb
    simp only [Bool.and_eq_true,Nat.beq_eq,Nat.ble_eq,Nat.blt_eq] at hb
    obtain ⟨⟨⟨h1,h2⟩,h3⟩,h4⟩:=hb
    rw [B0n _ _ _ _ (by omega)] at h
    rw [if_neg (by simp only [not_or,Decidable.not_not,Bool.not_eq_false];exact ⟨h1,by omega,h3,by omega⟩)]
    rw [h1] at h
    exact A7v ps _ k h
   ·exact h.elim
def B6u (T:G4) (t:TypeId) (ps:List (Nat×AV)) (k:AV→Prop):Prop :=
 match T t with
 | none=>False
 | some r=>match r.desc with
  | .struct fs=>match places T fs.toList with
   | none=>False
   | some pl=>B1K (fun i=>pl[i]?) ps (cellsOf (K3 r.zero)) fun out=>k (.agg out)
  | .array n el=>match T el with
   | none=>False
   | some q=>B1K (fun i=>some (i * q.size,q.size)) ps (cellsOf (K3 r.zero)) fun out=>k (.agg out)
  | _=>False
theorem B8S {T:G4} {t:TypeId} {ps:List (Nat×AV)} {k:AV→Prop} (h:B6u T t ps k):A6c T t ps k:=by
 unfold B6u at h
 unfold A6c
 split at h
 ·exact h.elim
 ·rename_i r hr
  rw [hr]
  simp only
  split at h
  ·rename_i fs hd
   rw [hd]
   simp only
   split at h
   ·exact h.elim
   ·rename_i pl hp
    rw [hp]
    simp only
    obtain ⟨out,h1,h2⟩:=A7v _ _ _ h
    rw [h1];exact h2
  ·rename_i n el hd
   rw [hd]
   simp only
   split at h
   ·exact h.elim
   ·rename_i q hq
    rw [hq]
    simp only
    obtain ⟨out,h1,h2⟩:=A7v _ _ _ h
    rw [h1];exact h2
  ·exact h.elim
def A5f:Nat→List AV→(List AV→List AV→Prop)→Prop
 | 0,l,k=>k [] l
 | n+1,v::l,k=>A5f n l fun a b=>k (v::a) b
 | _+1,[],k=>k [] []
theorem A7Y:∀ (n:Nat) (l:List AV) (k:List AV→List AV→Prop),A5f n l k=k (l.take n) (l.drop n)
 | 0,l,k=>by simp [A5f]
 | n+1,v::l,k=>by rw [A5f,A7Y n l];simp
 | n+1,[],k=>by simp [A5f]
def A9s (agg:Bool) (e:Nat):Nat→List AV→(List AV→Prop)→Prop
 | 0,_,k=>k []
 | n+1,out,k=>match agg with
  | true=>A5f e out fun a b=>A9s agg e n b fun r=>k (.agg a::r)
  | false=>match out with
   | v::b=>A9s agg e n b fun r=>k (v::r)
   | []=>False
theorem B3L (agg:Bool) (e n:Nat) (out:List AV) (he:agg=false→e=1):A0k agg e (n+1) out=(if agg then .agg (out.take e) else out.getD 0 .junk)::A0k agg e n (out.drop e):=by
 unfold A0k
 rw [List.range_succ_eq_map,List.map_cons,List.map_map]
 congr 1
 ·cases agg<;>simp
 ·refine List.map_congr_left fun i _=>?_
  cases agg with
  | true =>
   simp only [Function.comp,if_true]
   rw [List.drop_drop,show (i+1) * e=e+i * e from by rw [Nat.add_mul];omega]
  | false =>
   have:=he rfl
   subst this
   simp
theorem A7K {agg:Bool} {e:Nat} (he:agg=false→e=1):∀ (n:Nat) (out:List AV) (k:List AV→Prop),A9s agg e n out k→k (A0k agg e n out)
 | 0,out,k,h=>h
 | n+1,out,k,h=>by
  unfold A9s at h
  rw [B3L agg e n out he]
  cases agg with
  | true =>
   simp only [A7Y] at h
   exact A7K he n _ _ h
  | false =>
   simp only at h
   have:=he rfl
   subst this
   split at h
   ·rename_i v b;exact A7K he n _ _ h
   ·exact h.elim
def C2W (fz:Bool) (ty:TypeId) (v:AV) (st:St) (k:KK):Prop :=
 match Nat.blt 0 (cellsOf v).length&&(cellsOf v).all AV.one with
 | true=>(match fz with
  | true=>k (.fptr v 0) st
  | false=>B9V (cellsOf v) 0 fun n=>∀ b,st b=none→k (.optr n b 0 0) (upd st b ⟨ty,n,1,fun _=>v⟩))
 | false=>False
theorem B7v {fz:Bool} {ty:TypeId} {v:AV} {st:St} {k:KK} (h:C2W fz ty v st k):B7y ty v st k:=by
 unfold C2W at h
 split at h
 ·rename_i hb
  simp only [Bool.and_eq_true,Nat.blt_eq] at hb
  cases fz with
  | true=>exact ⟨hb.1,hb.2,.inl h⟩
  | false =>
   simp only [B6T,Nat.zero_add] at h
   exact ⟨hb.1,hb.2,.inr h⟩
 ·exact h.elim
def C4M (fz:Bool) (T:G4) (t:TypeId) (len:Nat) (ps:List (Nat×AV)) (st:St) (k:KK):Prop :=
 match T t with
 | none=>False
 | some r=>match r.desc with
  | .slice el=>match T el with
   | none=>False
   | some q=>match Nat.blt 0 (len * q.size)&&Nat.ble (len * q.size) 16777216&&Nat.beq q.zero.cells.size q.size&&(q.agg||Nat.beq q.size 1) with
    | false=>False
    | true=>B1K (fun i=>some (i * q.size,q.size)) ps ((List.range (len * q.size)).map fun i=>(cellsOf (K3 q.zero)).getD (i % q.size) .junk) fun out=>match out.all AV.one with
    | false=>False
    | true=>A9s q.agg q.size len out fun els=>match fz with
     | false=>k (.arr q.size len (fun i=>els.getD i .junk)) st
     | true=>∀ b,st b=none→k (.own q.size b 0 len) (upd st b ⟨el,q.size,len,fun i=>els.getD i .junk⟩)
  | _=>False
theorem C2Z {fz:Bool} {T:G4} {t:TypeId} {len:Nat} {ps:List (Nat×AV)} {st:St} {k:KK} (h:C4M fz T t len ps st k):A0q T t len ps st k:=by
 unfold C4M at h
 unfold A0q
 split at h
 ·exact h.elim
 ·rename_i r hr
  rw [hr]
  simp only
  split at h
  ·rename_i el hd
   rw [hd]
   simp only
   split at h
   ·exact h.elim
   ·rename_i q hq
    rw [hq]
    split at h
    ·exact h.elim
    rename_i hb
    simp only [Bool.and_eq_true,Nat.blt_eq,Nat.ble_eq,Nat.beq_eq,Bool.or_eq_true] at hb
    obtain ⟨⟨⟨h1,h2⟩,h3⟩,h4'⟩:=hb
    have h4:q.agg=false→q.size=1:=fun e=>h4'.resolve_left (by simp [e])
    refine ⟨h1,h2,h3,h4,?_⟩
    obtain ⟨out,ho,h⟩:=A7v _ _ _ h
    rw [ho]
    split at h
    ·exact h.elim
    rename_i hone
    have h:=A7K h4 _ _ _ h
    refine ⟨hone,?_⟩
    cases fz with
    | false=>exact .inl h
    | true=>exact .inr h
  ·exact h.elim
def B1M (r:D0) (cs:List AV) (o:Nat) (k:AV→Prop):Prop :=
 match r.agg with
 | true=>(match Nat.ble (o+r.size) cs.length with
  | true=>A5f o cs fun _ b=>A5f r.size b fun c _=>k (.agg c)
  | false=>False)
 | false=>A8C cs o fun y=>match y with | .junk=>False | y=>k y
theorem B0z {r:D0} {cs:List AV} {o:Nat} {k:AV→Prop} (h:B1M r cs o k):pick r cs o k:=by
 unfold B1M at h
 unfold pick
 split at h
 ·rename_i e
  rw [e]
  split at h
  ·rename_i hb
   simp only [A7Y] at h
   exact ⟨by simpa using hb,h⟩
  ·exact h.elim
 ·rename_i e
  rw [e]
  rw [A3M] at h
  simp only
  rw [List.getD_eq_getElem?_getD] at h
  cases hy:cs[o]? with
  | none=>rw [hy] at h;exact h.elim
  | some y=>rw [hy] at h;simp only [Option.getD_some] at h;split at h;exact h.elim;exact h
structure C4L (T:G4) (t:TypeId) (e b i o:Nat) (st:St) (k:KK):Prop where
 out:A2l T t (.optr e b i o) st k
def B4W (T:G4) (t:TypeId) (v:AV) (st:St) (k:KK):Prop :=
 match v with
 | .fptr v o=>(match T t with | some r=>B1M r (cellsOf v) o (fun y=>k y st) | none=>False)
 | .optr e b i o=>C4L T t e b i o st k
 | _=>False
theorem B0x {T:G4} {t:TypeId} {v:AV} {st:St} {k:KK} (h:B4W T t v st k):A2l T t v st k:=by
 unfold B4W at h
 split at h
 ·unfold A2l
  split at h
  ·rename_i hr;rw [hr];exact B0z h
  ·exact h.elim
 ·exact h.out
 ·exact h.elim
structure C3a (T:G4) (t:TypeId) (e b i o:Nat) (v:AV) (st:St) (k:KK):Prop where
 out:(match T t with | some r=>0<r.size | none=>False)∧A6f T t (.optr e b i o) v st k
def C1k (T:G4) (t:TypeId) (p v:AV) (st:St) (k:KK):Prop:=match p with | .optr e b i o=>C3a T t e b i o v st k | _=>False
structure A5j (T:G4) (t:TypeId) (s x:AV) (st:St) (k:KK):Prop where
 out:A3C T t s x st k
structure xMk (T:G4) (t:TypeId) (l c:AV) (st:St) (k:KK):Prop where
 out:A9b T t l c st k
def B0w (T:G4) (b:Builtin) (args:List AV) (ts:List TypeId) (st:St) (k:KK):Prop :=
 match b with
 | .append=>match args,ts with
  | [s,x],[t,u]=>(match Nat.beq t u with | true=>A5j T t s x st k | false=>False)
  | _,_=>False
 | b=>A1u T b args ts st k
theorem B4T {T:G4} {b:Builtin} {args:List AV} {ts:List TypeId} {st:St} {k:KK} (h:B0w T b args ts st k):A1u T b args ts st k:=by
 unfold B0w at h
 split at h
 ·unfold A1u
  split at h
  ·split at h
   ·rename_i e;exact ⟨Nat.eq_of_beq_eq_true e,h.out⟩
   ·exact h.elim
  ·exact h.elim
 ·exact h
def B3h (P:Program) (T:G4) (M:H1) (r:AV) (name:String) (args:List AV) (st:St) (k:KK):Prop :=
 match r with
 | .iface t v=>match M t name with
  | some (f,none)=>A1C P f (v::args) st k
  | some (f,some el)=>B4W T el v st (fun u st'=>A1C P f (u::args) st' k)
  | none=>False
 | _=>False
theorem B6x {P:Program} {T:G4} {M:H1} {r:AV} {name:String} {args:List AV} {st:St} {k:KK} (h:B3h P T M r name args st k):A5q P T M r name args st k:=by
 unfold B3h at h
 unfold A5q
 split at h
 ·rename_i t v
  simp only
  split at h
  ·rename_i f hf;rw [hf];exact h.out
  ·rename_i f el hf;rw [hf];exact A3D (k:=fun u st'=>A1C P f (u::args) st' k) (fun u hu=>hu.out) (B0x h)
  ·exact h.elim
 ·exact h.elim
def C4I (T:G4) (op:BinOp) (t:TypeId) (x y:AV) (k:AV→Prop):Prop :=
 match x,y,op with
 | .int kk a,.int _ b,.shl=>A2K (decide (b<0)) False (k (.int kk (kk.wrap (a * 2 ^ (min b.toNat kk.bits)))))
 | .int kk a,.int _ b,.shr=>A2K (decide (b<0)) False (k (.int kk (a.fdiv (2 ^ (min b.toNat kk.bits)))))
 | .int kk a,.int k' b,.quo=>match decide (kk=k') with | true=>A2K (decide (b=0)) False (k (.int kk (kk.wrap (a.tdiv b)))) | false=>False
 | .int kk a,.int k' b,.rem=>match decide (kk=k') with | true=>A2K (decide (b=0)) False (k (.int kk (a.tmod b))) | false=>False
 | x,y,op=>match B1R T op t x y with | some z=>k z | none=>False
theorem C2V {T:G4} {op:BinOp} {t:TypeId} {x y:AV} {k:AV→Prop} (h:C4I T op t x y k):match B1R T op t x y with | some z=>k z | none=>False:=by
 unfold C4I at h
 split at h
 ·obtain ⟨h1,h2⟩:=(W1 _ _ _).1 h
  rename_i kk a k' b
  by_cases hb:b<0
  ·exact (h1 (decide_eq_true hb)).elim
  ·simp only [B1R,A7z,if_neg hb];exact h2 (decide_eq_false hb)
 ·obtain ⟨h1,h2⟩:=(W1 _ _ _).1 h
  rename_i kk a k' b
  by_cases hb:b<0
  ·exact (h1 (decide_eq_true hb)).elim
  ·simp only [B1R,A7z,if_neg hb];exact h2 (decide_eq_false hb)
 ·rename_i kk a k' b
  by_cases hk:kk=k'
  ·rw [decide_eq_true hk] at h
   obtain ⟨h1,h2⟩:=(W1 _ _ _).1 h
   by_cases hb:b=0
   ·exact (h1 (decide_eq_true hb)).elim
   ·simp only [B1R,C1C,if_pos hk,if_neg hb];exact h2 (decide_eq_false hb)
  ·rw [decide_eq_false hk] at h;exact h.elim
 ·rename_i kk a k' b
  by_cases hk:kk=k'
  ·rw [decide_eq_true hk] at h
   obtain ⟨h1,h2⟩:=(W1 _ _ _).1 h
   by_cases hb:b=0
   ·exact (h1 (decide_eq_true hb)).elim
   ·simp only [B1R,C1C,if_pos hk,if_neg hb];exact h2 (decide_eq_false hb)
  ·rw [decide_eq_false hk] at h;exact h.elim
 ·exact h
def C1g (T:G4) (op:BinOp) (t:TypeId) (y:Operand) (vx vy:AV) (k:AV→Prop):Prop :=
 match C1D T op t y vx with
 | some z=>k z
 | none=>C4I T op t vx vy k
theorem C1h {T:G4} {op:BinOp} {t:TypeId} {y:Operand} {vx vy:AV} {k:AV→Prop} (h:C1g T op t y vx vy k):match B3o T op t y vx vy with | some z=>k z | none=>False:=by
 unfold C1g at h
 unfold B3o
 split at h
 ·rename_i z hz;rw [hz];exact h
 ·rename_i hz;rw [hz];exact C2V h
structure C4K (s:ByteArray) (j:Int) (k:AV→Prop):Prop where
 out:∃ h:0≤j∧j.toNat<s.size,k (.int .u8 ((s[j.toNat]'h.2).toNat:Int))
def B6w (T:G4) (t:TypeId) (v i:AV) (k:AV→Prop):Prop :=
 match T t with
 | none=>False
 | some r=>match r.desc,v,i with
  | .string,.str s,.int _ j=>C4K s j k
  | _,_,_=>False
theorem B8U {T:G4} {t:TypeId} {v i:AV} {k:AV→Prop} (h:B6w T t v i k):A6e T t v i k:=by
 unfold B6w at h
 unfold A6e
 split at h
 ·exact h.elim
 rename_i r hr
 rw [hr]
 simp only
 split at h
 ·rename_i s kk j hd
  rw [hd]
  exact h.out
 ·exact h.elim
def C2l (n:Nat) (k:Nat→Prop):Prop :=
 match n with
 | 0=>k 0 | 1=>k 1 | 2=>k 2 | 3=>k 3 | 4=>k 4 | 5=>k 5 | 6=>k 6 | 7=>k 7 | 8=>k 8 | 9=>k 9 | 10=>k 10 | 11=>k 11 | 12=>k 12 | 13=>k 13 | 14=>k 14 | 15=>k 15 | 16=>k 16 | 17=>k 17 | 18=>k 18 | 19=>k 19 | 20=>k 20 | n=>k n
theorem B6Y (n:Nat) (k:Nat→Prop):C2l n k=k n:=by unfold C2l;split<;>rfl
def A6x (T:G4) (s:TypeId) (p:AV) (f:Nat) (k:AV→Prop):Prop :=
 match T s with
 | none=>False
 | some r=>match r.desc with
  | .struct fs=>match fs[f]? with
   | none=>False
   | some fl=>match T fl.type with
    | none=>False
    | some q=>match Nat.blt 0 q.size with
     | true=>(match p with
      | .fptr v o=>C2l (o+fl.offset) fun o'=>k (.fptr v o')
      | .optr e b i o=>C2l (o+fl.offset) fun o'=>k (.optr e b i o')
      | _=>False)
     | false=>False
  | _=>False
theorem B0V {T:G4} {s:TypeId} {p:AV} {f:Nat} {k:AV→Prop} (h:A6x T s p f k):A0j T s p f k:=by
 unfold A6x at h
 unfold A0j
 split at h
 ·exact h.elim
 rename_i r hr
 rw [hr]
 simp only
 split at h
 case h_2=>exact h.elim
 rename_i fs hd
 rw [hd]
 simp only
 split at h
 ·exact h.elim
 rename_i fl hf
 rw [hf]
 simp only
 split at h
 ·exact h.elim
 rename_i q hq
 rw [hq]
 simp only
 split at h
 ·rename_i hb
  refine ⟨by simpa using hb,?_⟩
  split at h
  ·rw [B6Y] at h;exact h
  ·rw [B6Y] at h;exact h
  ·exact h.elim
 ·exact h.elim
def B6v (T:G4) (s:TypeId) (v:AV) (f:Nat) (k:AV→Prop):Prop :=
 match T s with
 | none=>False
 | some r=>match r.desc with
  | .struct fs=>match fs[f]? with
   | none=>False
   | some fl=>match T fl.type with
    | none=>False
    | some q=>match v with
     | .agg cs=>B1M q cs fl.offset k
     | _=>False
  | _=>False
theorem B8T {T:G4} {s:TypeId} {p:AV} {f:Nat} {k:AV→Prop} (h:B6v T s p f k):A6d T s p f k:=by
 unfold B6v at h
 unfold A6d
 split at h
 ·exact h.elim
 rename_i r hr
 rw [hr]
 simp only
 split at h
 case h_2=>exact h.elim
 rename_i fs hd
 rw [hd]
 simp only
 split at h
 ·exact h.elim
 rename_i fl hf
 rw [hf]
 simp only
 split at h
 ·exact h.elim
 rename_i q hq
 rw [hq]
 simp only
 split at h
 ·exact B0z h
 ·exact h.elim
def xOp (P:Program) (T:G4) (M:H1) (fz:Bool) (op:Op) (A:List AV) (st:St) (k:KK):Prop :=
 match op with
 | .move x=>evK A x fun v=>k v st
 | .assign x=>evK A x fun v=>k v st
 | .pick c x y=>evK A c fun v=>match v with | .bool b=>A2K b (evK A x fun u=>k u st) (evK A y fun u=>k u st) | _=>False
 | .binOp op t x y _=>evK A x fun v=>evK A y fun u=>C1g T op t y v u (fun z=>k z st)
 | .unOp op _ x=>evK A x fun v=>match aUn op v with | some z=>k z st | none=>False
 | .load t x=>evK A x fun v=>B4W T t v st k
 | .store t x y=>evK A x fun v=>evK A y fun u=>C1k T t v u st k
 | .alloc t=>match T t with | some r=>C2W fz t (K3 r.zero) st k | none=>False
 | .box t x=>evK A x fun v=>C2W fz t v st k
 | .build t ps=>B7P A ps.toList fun vs=>B6u T t vs (fun v=>k v st)
 | .buildSlice t n ps=>match n with
  | 0=>B7P A ps.toList fun vs=>B3r T t vs st k
  | m+1=>B7P A ps.toList fun vs=>C4M fz T t (m+1) vs st k
 | .nilCheck x=>evK A x fun v=>match A5r v with | true=>k v st | false=>False
 | .convert s d x=>evK A x fun v=>match A6I T s d v with | some z=>k z st | none=>False
 | .makeInterface t x=>evK A x fun v=>match B2j T t with | true=>k (.iface t v) st | false=>False
 | .makeFunc fn fs cs=>B7Q A fs.toList fun us=>B7Q A cs.toList fun vs=>k (.fn fn us vs) st
 | .makeSlice t l c=>evK A l fun v=>evK A c fun u=>xMk T t v u st k
 | .slice t x lo hi mx=>evK A x fun v=>C2m A lo fun l=>C2m A hi fun h=>C2m A mx fun m=>A7A T t v l h m (fun v=>k v st)
 | .fieldAddr s x f=>evK A x fun v=>A6x T s v f (fun v=>k v st)
 | .field s x f=>evK A x fun v=>B6v T s v f (fun v=>k v st)
 | .indexAddr t x i=>evK A x fun v=>evK A i fun u=>A1c T t v u (fun v=>k v st)
 | .index t x i=>evK A x fun v=>evK A i fun u=>B6w T t v u (fun v=>k v st)
 | .typeAssert x _ t ok=>evK A x fun v=>match A8I T v t ok with | some z=>k z st | none=>False
 | .extract x i=>evK A x fun v=>A3i v i (fun v=>k v st)
 | .call c=>B7Q A c.args.toList fun args=>match c.callee with
  | .builtin b=>B0w T b args c.argTypes.toList st k
  | .invoke r name=>evK A r fun v=>B3h P T M v name args st k
  | .value f=>evK A f fun v=>match v with
   | .fn g fs cs=>(match g with | .func n=>B9o fs args fun l=>B9o l cs fun l=>A1C P n l st k | _=>False)
   | _=>False
 | _=>False
theorem A2C {P:Program} {T:G4} {M:H1} {fz:Bool} {o:Oper} {A:List AV} {st:St} {k:KK} (h:xOp P T M fz o.op A st k):aOp P T M o A st k:=by
 obtain ⟨dst,op,type,pos,after,guard⟩:=o
 unfold aOp
 cases op<;>simp only [xOp,A2W,B6M,A8L,C2n,A3F] at h ⊢<;>try exact h
 case alloc t =>
  split at h
  ·rename_i r hr;rw [hr];exact B7v h
  ·exact h.elim
 case box t x=>exact B7v h
 case fieldAddr t x f=>exact B0V h
 case field t x f=>exact B8T h
 case binOp op t x y _=>exact C1h h
 case index t x f=>exact B8U h
 case load t x=>exact B0x h
 case store t x y =>
  unfold C1k at h
  split at h
  ·rename_i hv;rw [hv];exact h.out
  ·exact h.elim
 case makeSlice t l c=>exact h.out
 case build t ps=>exact B8S h
 case buildSlice t n ps =>
  cases n with
  | zero=>simp only [A8L] at h;exact h
  | succ m=>simp only [A8L] at h;exact C2Z h
 case pick c x y =>
  split at h
  ·rename_i b hb
   simp only [hb]
   exact (W1 _ _ _).1 h
  ·exact h.elim
 case nilCheck x =>
  split at h
  ·rename_i hb;exact ⟨hb,h⟩
  ·exact h.elim
 case makeInterface t x =>
  split at h
  ·rename_i hb;exact ⟨hb,h⟩
  ·exact h.elim
 case call c =>
  obtain ⟨callee,args,ts⟩:=c
  cases callee with
  | builtin b=>exact B4T h
  | invoke r name=>simp only [A2W] at h;exact B6x h
  | value f =>
   simp only [A2W,A3F] at h
   simp only [A3E]
   split at h
   ·rename_i g fs cs hf
    rw [hf]
    simp only
    split at h
    ·exact h.out
    ·exact h.elim
   ·exact h.elim
def A5m (ops:List Oper) (o:Oper) (A:List AV) (x y:Prop):Prop :=
 match o.guard with
 | none=>x
 | some (g,want)=>match ops[g]? with
  | none=>y
  | some p=>match p.dst with
   | none=>y
   | some d=>A8C A d fun v=>match v with
    | .bool b=>(match want with | true=>A2K b x y | false=>A2K b y x)
    | .tuple _=>y
    | _=>False
theorem A3w {ops:List Oper} {o:Oper} {A:List AV} {x y:Prop} (h:A5m ops o A x y):∃ b,A0b ops o A=some b∧(b=true→x)∧(b=false→y):=by
 unfold A5m at h
 unfold A0b
 split at h
 ·rename_i hg;exact ⟨true,by simp [hg],fun _=>h,fun e=>by cases e⟩
 ·rename_i g want hg
  simp only [hg]
  split at h
  ·rename_i hp;exact ⟨false,by simp [hp],(fun e=>by cases e),fun _=>h⟩
  ·rename_i p hp
   simp only [hp]
   split at h
   ·rename_i hd;exact ⟨false,by simp [hd],(fun e=>by cases e),fun _=>h⟩
   ·rename_i d hd
    simp only [hd]
    rw [A3M] at h
    rw [List.getD_eq_getElem?_getD] at h
    cases hA:A[d]? with
    | none=>exact ⟨false,by simp,(fun e=>by cases e),fun _=>by rw [hA] at h;exact h.elim⟩
    | some v =>
     rw [hA] at h
     simp only [Option.getD_some] at h
     split at h
     ·rename_i b
      cases want with
      | true=>exact ⟨b,by simp,(W1 _ _ _).1 h⟩
      | false=>exact ⟨!b,by simp,fun e=>((W1 _ _ _).1 h).2 (by simpa using e),fun e=>((W1 _ _ _).1 h).1 (by simpa using e)⟩
     ·exact ⟨false,rfl,(fun e=>by cases e),fun _=>h⟩
     ·exact h.elim
def inF (frz:List Nat) (d:Option Tmp):Bool:=match d with | some p=>frz.contains p | none=>false
def A4S (frz:List Nat) (o1 o2:Oper):Option (Tmp×TypeId×TypeId×Operand) :=
 match o1.guard,o2.guard with
 | none,none=>match o1.op,o1.dst,o2.op with
  | .alloc t,some p,.store u (.tmp q) y=>(match Nat.beq p q&&frz.contains p with | true=>some (p,t,u,y) | false=>none)
  | _,_,_=>none
 | _,_=>none
theorem B5w {rd:Addr→Option Value} {sz:Nat→Nat} {v v':AV} {r:Nat} {c:Value} (he:cellsOf v=cellsOf v') (h:Rep rd sz (.fptr v r) c):Rep rd sz (.fptr v' r) c:=by
 cases h with
 | fptr v r a g hr hg=>exact .fptr v' r a g (fun j hj=>hr j (by rw [he];exact hj)) (fun j y hy=>hg j y (by rw [he];exact hy))
theorem C1T {A:List AV} {st:St} {p b:Nat} {d:Option Tmp} {x y:Q5} {v:AV} {e:Nat} (hb:st b=none) (hn:0<y.n) (hv:cellsOf (y.f 0)=cellsOf v) (hp:p<A.length) (hd:d≠some p) :
  A4A (I4 (I4 A (some p) (.optr e b 0 0)) d (.tuple [])) (upd (upd st b x) b y) (I4 (I4 A (some p) (.fptr v 0)) d (.tuple [])) st:=by
 intro w a hA hS
 have hst:upd (upd st b x) b y b=some y:=by simp [upd]
 have hne:∀ c,c≠b→upd (upd st b x) b y c=st c:=fun c hc=>by simp [upd,hc]
 have he:Z3 (upd (upd st b x) b y) w st w:=⟨rfl,rfl,rfl,Nat.le_refl _,fun c _ hs=>⟨rfl,by
  by_cases hc:c=b
  ·subst hc;exact hb
  ·rw [hne c hc] at hs;exact hs⟩,fun _=>Nat.le_refl _⟩
 obtain ⟨cs,hok⟩:=hS b y hst
 refine ⟨⟨by have:=hA.len;simp [I4] at this ⊢;cases d<;>simp_all,fun i u hu=>?_,hA.defers⟩,fun c z hz=>?_,he⟩
 ·by_cases hi:i=p
  ·subst hi
   have hpt:(I4 (I4 A (some i) (.optr e b 0 0)) d (.tuple []))[i]?=some (.optr e b 0 0):=by
    cases d with
    | none=>simp [I4,hp]
    | some q=>simp only [I4];rw [List.getElem?_set_ne (fun h=>hd (by rw [h]))];simp [hp]
   have hpt':(I4 (I4 A (some i) (.fptr v 0)) d (.tuple []))[i]?=some (.fptr v 0):=by
    cases d with
    | none=>simp [I4,hp]
    | some q=>simp only [I4];rw [List.getElem?_set_ne (fun h=>hd (by rw [h]))];simp [hp]
   rw [hpt'] at hu
   cases hu
   obtain ⟨c,hc1,hc2⟩:=hA.at_ i _ hpt
   refine ⟨c,hc1,?_⟩
   cases hc2
   have:=B5w hv (A8g (hok.evo he rfl) hb hn)
   simpa using this
  ·have hsame:(I4 (I4 A (some p) (.optr e b 0 0)) d (.tuple []))[i]?=(I4 (I4 A (some p) (.fptr v 0)) d (.tuple []))[i]?:=by
    cases d with
    | none=>simp only [I4];rw [List.getElem?_set_ne (fun h=>hi h.symm),List.getElem?_set_ne (fun h=>hi h.symm)]
    | some q =>
     simp only [I4,List.getElem?_set,List.length_set]
     rw [if_neg (show ¬ p=i from fun h=>hi h.symm),if_neg (show ¬ p=i from fun h=>hi h.symm)]
   rw [←hsame] at hu
   obtain ⟨c,hc1,hc2⟩:=hA.at_ i u hu
   exact ⟨c,hc1,he.rep hc2⟩
 ·have hc:c≠b:=fun h=>by rw [h,hb] at hz;cases hz
  obtain ⟨ds,hd'⟩:=hS c z (by rw [hne c hc];exact hz)
  exact ⟨ds,hd'.evo he rfl⟩
def B5I (d:Option Tmp) (p:Tmp):Bool:=match d with | some q=>!Nat.beq q p | none=>true
def B6Z (y:Operand) (p:Tmp):Bool:=match y with | .tmp q=>!Nat.beq q p | _=>true
theorem B8f {d:Option Tmp} {p:Tmp} (h:B5I d p=true):d≠some p:=fun e=>by subst e;simp [B5I] at h
theorem B3X {y:Operand} {p:Tmp} (h:B6Z y p=true):y≠.tmp p:=fun e=>by subst e;simp [B6Z] at h
def B0y (T:G4) (p:Tmp) (t u:TypeId) (y:Operand) (d:Option Tmp) (A:List AV) (st:St) (k:KA):Prop :=
 match T t,T u with
 | some r,some q=>evK A y fun v=>match Nat.blt p A.length&&B5I d p&&Nat.blt 0 q.size&&Nat.beq (cellsOf (K3 r.zero)).length q.size&&(cellsOf (K3 r.zero)).all AV.one&&Nat.beq (cellsOf v).length q.size&&(cellsOf v).all AV.one&&B6Z y p with
   | true=>B2R A p (.fptr v 0) fun A'=>A0U A' d (.tuple []) fun A''=>k A'' st
   | false=>False
 | _,_=>False
theorem B2P {v:AV} {cs:List AV} (h:cs.length=(cellsOf v).length) (h1:cs.all AV.one=true) (h2:0<cs.length):cellsOf (P3 v 0 cs)=cs:=by
 rw [A5b (by omega) h1 h2]
 simp [h]
theorem A5k {P:Program} {T:G4} {M:H1} {frz:List Nat} {o1 o2:Oper} {p:Tmp} {t u:TypeId} {y:Operand} (hp:A4S frz o1 o2=some (p,t,u,y)) {A:List AV} {st:St} {k:KA} (h:B0y T p t u y o2.dst A st k) :
  o1.guard=none∧o2.guard=none∧aOp P T M o1 A st fun v st'=>aOp P T M o2 (I4 A o1.dst v) st' fun v' st''=>A6F k (I4 (I4 A o1.dst v) o2.dst v') st'':=by
 unfold A4S at hp
 split at hp
 case h_2=>cases hp
 rename_i hg1 hg2
 split at hp
 case h_2=>cases hp
 rename_i t' p' u' q' y' ho1 hd1 ho2
 split at hp
 case h_2=>cases hp
 rename_i hb
 cases hp
 simp only [Bool.and_eq_true] at hb
 obtain rfl:=Nat.eq_of_beq_eq_true hb.1
 refine ⟨hg1,hg2,?_⟩
 unfold B0y at h
 split at h
 case h_2=>exact h.elim
 rename_i r q hr hq
 rw [A2W] at h
 split at h
 case h_2=>exact h.elim
 rename_i hb
 simp only [Bool.and_eq_true,Nat.blt_eq,Nat.beq_eq] at hb
 obtain ⟨⟨⟨⟨⟨⟨⟨hlt,hd⟩,hq0⟩,hz1⟩,hz2⟩,hv1⟩,hv2⟩,hy⟩:=hb
 have hd:=B8f hd
 have hy:=B3X hy
 rw [A7n,Q7] at h
 have hk:=h
 unfold aOp
 rw [ho1,ho2,hd1]
 simp only [hr,hq]
 refine ⟨by omega,hz2,.inr fun b hb=>⟨hq0,?_⟩⟩
 have hevp:ev (I4 A (some p) (.optr (cellsOf (K3 r.zero)).length b 0 0)) (.tmp p)=.optr (cellsOf (K3 r.zero)).length b 0 0:=by
  simp [ev,I4,hlt]
 have hevy:ev (I4 A (some p) (.optr (cellsOf (K3 r.zero)).length b 0 0)) y=ev A y:=B5t fun t ht hyt=>by
  cases ht;exact hy hyt
 unfold A6f
 simp only [hq,hevp,hevy]
 have hst:upd st b ⟨t,(cellsOf (K3 r.zero)).length,1,fun _=>K3 r.zero⟩ b=some ⟨t,(cellsOf (K3 r.zero)).length,1,fun _=>K3 r.zero⟩:=by simp [upd]
 rw [hst]
 refine ⟨rfl,Nat.one_pos,hv1,hv2,by simp only;omega,_,_,C1T hb Nat.one_pos ?_ hlt hd,hk⟩
 simp only [G5,if_true]
 exact B2P (by omega) hv2 (by omega)
def A7u (frz:List Nat) (o om o2:Oper):Option (Tmp×Operand×Tmp×TypeId×TypeId×Operand) :=
 match om.guard,om.op,om.dst,A4S frz o o2 with
 | none,.assign x,some m,some (p,t,u,y)=>(match !Nat.beq m p&&B6Z x p with | true=>some (m,x,p,t,u,y) | false=>none)
 | _,_,_,_=>none
def A8W (T:G4) (m:Tmp) (x:Operand) (p:Tmp) (t u:TypeId) (y:Operand) (d:Option Tmp) (A:List AV) (st:St) (k:KA):Prop :=
 evK A x fun v=>B2R A m v fun A1=>B0y T p t u y d A1 st k
theorem B0E {P:Program} {T:G4} {M:H1} {o:Oper} {t:TypeId} (ho:o.op=.alloc t) {A B:List AV} {st:St} {k:KK} (h:aOp P T M o A st k):aOp P T M o B st k:=by
 unfold aOp at *
 rw [ho] at h ⊢
 exact h
theorem B0X {P:Program} {T:G4} {M:H1} {frz:List Nat} {o1 om o2:Oper} {m p:Tmp} {x:Operand} {t u:TypeId} {y:Operand} (hp:A7u frz o1 om o2=some (m,x,p,t,u,y)) {A:List AV} {st:St} {k:KA} (h:A8W T m x p t u y o2.dst A st k) :
  o1.guard=none∧om.guard=none∧o2.guard=none∧aOp P T M o1 A st fun v st'=>aOp P T M om (I4 A o1.dst v) st' fun v1 st1=>aOp P T M o2 (I4 (I4 A o1.dst v) om.dst v1) st1 fun v' st''=>A6F k (I4 (I4 (I4 A o1.dst v) om.dst v1) o2.dst v') st'':=by
 unfold A7u at hp
 split at hp
 case h_2=>cases hp
 rename_i x' m' p' t' u' y' hg hop hdst hpr
 split at hp
 case h_2=>cases hp
 rename_i hb
 cases hp
 simp only [Bool.and_eq_true,Bool.not_eq_true'] at hb
 have hmp:m≠p:=fun e=>by subst e;simp at hb
 have hxp:x≠.tmp p:=B3X hb.2
 unfold A8W at h
 rw [A2W,A7n] at h
 obtain ⟨g1,g2,h1⟩:=A5k (P:=P) (M:=M) hpr h
 have hal:∃ t0,o1.op=.alloc t0∧o1.dst=some p:=by
  unfold A4S at hpr
  split at hpr
  case h_2=>cases hpr
  split at hpr
  case h_2=>cases hpr
  rename_i t0 p0 u0 q0 y0 ho1 hd1 ho2
  split at hpr
  case h_2=>cases hpr
  cases hpr
  exact ⟨_,ho1,hd1⟩
 obtain ⟨t0,ho1,hd1⟩:=hal
 refine ⟨g1,hg,g2,L6 (fun v st' h2=>?_) (B0E (B:=A) ho1 h1)⟩
 have e1:ev (I4 A (some p) v) x=ev A x:=B5t fun t ht hx=>by cases ht;exact hxp hx
 have e2:I4 (I4 A (some p) v) (some m) (ev A x)=I4 (A.set m (ev A x)) (some p) v:=by
  have:=A5A A (x:=some p) (y:=some m) v (ev A x) (fun d hd e=>by cases hd;cases e;exact hmp rfl)
  exact this
 rw [hd1] at h2 ⊢
 rw [hdst]
 unfold aOp
 rw [hop]
 simp only [e1,e2]
 exact h2
def B6y (P:Program) (T:G4) (M:H1) (frz:List Nat) (ops:List Oper):List Oper→List AV→St→KA→Prop
 | [],A,st,k=>k A st
 | o::rest,A,st,k=>match (match rest with | [o2]=>A4S frz o o2 | _=>none) with
  | some (p,t,u,y)=>(match rest with | [o2]=>B0y T p t u y o2.dst A st k | _=>False)
  | none=>match (match rest with | [om,o2]=>A7u frz o om o2 | _=>none) with
  | some (m,x,p,t,u,y)=>(match rest with | [_,o2]=>A8W T m x p t u y o2.dst A st k | _=>False)
  | none=>A5m ops o A
   (xOp P T M (inF frz o.dst) o.op A st fun v st'=>A0U A o.dst v fun A'=>B6y P T M frz ops rest A' st' k)
   (A0U A o.dst (.tuple []) fun A'=>B6y P T M frz ops rest A' st k)
theorem A3j {P:Program} {T:G4} {M:H1} {ops:List Oper} {o:Oper} {rest:List Oper} {A:List AV} {st:St} {k:KA} (hg:o.guard=none) (h:aOp P T M o A st fun v st'=>A5M P T M ops rest (I4 A o.dst v) st' k):A5M P T M ops (o::rest) A st k:=by
 unfold A5M A0b
 rw [hg]
 exact ⟨fun _=>h,fun e=>by cases e⟩
theorem A8V {P:Program} {T:G4} {M:H1} {frz:List Nat} {ops:List Oper}:∀ (l:List Oper) (A:List AV) (st:St) (k:KA),B6y P T M frz ops l A st k→A5M P T M ops l A st (A6F k)
 | [],A,st,k,h=>⟨A,st,A4A.refl A st,h⟩
 | o::rest,A,st,k,h=>by
  unfold B6y at h
  split at h
  ·rename_i p t u y hp
   split at hp
   ·rename_i o2
    obtain ⟨g1,g2,h1⟩:=A5k (P:=P) (M:=M) hp h
    exact A3j g1 (L6 (fun v st' h2=>A3j g2 h2) h1)
   ·cases hp
  ·split at h
   ·rename_i m x p t u y hp
    split at hp
    ·rename_i om o2
     obtain ⟨g1,g2,g3,h1⟩:=B0X (P:=P) (M:=M) hp h
     exact A3j g1 (L6 (fun v st' h2=>A3j g2 (L6 (fun v1 st1 h3=>A3j g3 h3) h2)) h1)
    ·cases hp
   obtain ⟨b,hb,h1,h2⟩:=A3w h
   unfold A5M
   rw [hb]
   refine ⟨fun e=>L6 (fun v st' hk=>?_) (A2C (h1 e)),fun e=>?_⟩
   ·rw [Q7] at hk;exact A8V rest _ _ _ hk
   ·have:=h2 e;rw [Q7] at this;exact A8V rest _ _ _ this
def A5U (op:Op):Bool:=X5 op||(match op with | .load ..=>true | _=>false)
theorem A9M {r:D0} {cs:List AV} {i:Nat} {k:AV→Prop} (h:pick r cs i k):∃ v,(pick r cs i fun v'=>v'=v)∧k v:=by
 unfold pick at *
 split at h
 ·exact ⟨_,⟨h.1,rfl⟩,h.2⟩
 ·split at h
  ·exact ⟨_,rfl,h⟩
  ·exact h.elim
theorem B2f {P:Program} {T:G4} {M:H1} {o:Oper} (hd:A5U o.op=true) {A:List AV} {st:St} {k:KK} (h:aOp P T M o A st k):∃ v,(aOp P T M o A st fun v' s=>v'=v∧s=st)∧k v st:=by
 have fin:∀ {v:AV},(aOp P T M o A st fun v' s=>v'=v)→A5U o.op=true→True:=fun _ _=>trivial
 unfold aOp at *
 split at h
 ·exact ⟨_,⟨rfl,rfl⟩,h⟩
 ·exact ⟨_,⟨rfl,rfl⟩,h⟩
 ·split at h
  ·rename_i b hb
   cases b with
   | true=>exact ⟨_,⟨fun _=>⟨rfl,rfl⟩,fun e=>by cases e⟩,h.1 rfl⟩
   | false=>exact ⟨_,⟨(fun e=>by cases e),fun _=>⟨rfl,rfl⟩⟩,h.2 rfl⟩
  ·exact h.elim
 ·split at h
  ·exact ⟨_,⟨rfl,rfl⟩,h⟩
  ·exact h.elim
 ·split at h
  ·exact ⟨_,⟨rfl,rfl⟩,h⟩
  ·exact h.elim
 ·unfold A2l at *
  split at h
  ·exact h.elim
  ·split at h
   ·obtain ⟨v,h1,h2⟩:=A9M h
    exact ⟨v,A2g (fun v' e=>⟨e,rfl⟩) h1,h2⟩
   ·split at h
    ·obtain ⟨v,h1,h2⟩:=A9M h.2.2
     exact ⟨v,⟨h.1,h.2.1,A2g (fun v' e=>⟨e,rfl⟩) h1⟩,h2⟩
    ·exact h.elim
   ·exact h.elim
 ·rename_i ho;rw [ho] at hd;cases hd
 ·rename_i ho;rw [ho] at hd;cases hd
 ·rename_i ho;rw [ho] at hd;cases hd
 ·unfold A6c at *
  split at h
  ·exact h.elim
  ·split at h
   ·split at h
    ·exact h.elim
    ·split at h
     ·exact ⟨_,⟨rfl,rfl⟩,h⟩
     ·exact h.elim
   ·split at h
    ·exact h.elim
    ·split at h
     ·exact ⟨_,⟨rfl,rfl⟩,h⟩
     ·exact h.elim
   ·exact h.elim
 ·rename_i ho;rw [ho] at hd;cases hd
 ·exact ⟨_,⟨h.1,rfl,rfl⟩,h.2⟩
 ·split at h
  ·exact ⟨_,⟨rfl,rfl⟩,h⟩
  ·exact h.elim
 ·exact ⟨_,⟨h.1,rfl,rfl⟩,h.2⟩
 ·exact ⟨_,⟨rfl,rfl⟩,h⟩
 ·rename_i ho;rw [ho] at hd;cases hd
 ·unfold A7A at *
  split at h
  ·exact h.elim
  ·split at h
   ·split at h
    ·exact h.elim
    ·split at h
     ·exact ⟨_,⟨h.1,h.2.1,h.2.2.1,h.2.2.2.1,rfl,rfl⟩,h.2.2.2.2⟩
     ·split at h
      ·split at h
       ·exact ⟨_,⟨h.1,h.2.1,rfl,rfl⟩,h.2.2⟩
       ·exact h.elim
      ·split at h
       ·exact ⟨_,⟨h.1,h.2.1,h.2.2.1,rfl,rfl⟩,h.2.2.2⟩
       ·exact h.elim
      ·split at h
       ·exact ⟨_,⟨h.1,h.2.1,rfl,rfl⟩,h.2.2⟩
       ·exact h.elim
      ·exact h.elim
   ·split at h
    ·split at h
     ·exact ⟨_,⟨h.1,rfl,rfl⟩,h.2⟩
     ·exact h.elim
    ·exact h.elim
   ·exact h.elim
 ·unfold A0j at *
  split at h
  ·exact h.elim
  ·split at h
   ·split at h
    ·exact h.elim
    ·split at h
     ·exact h.elim
     ·obtain ⟨h0,h⟩:=h
      split at h
      ·exact ⟨_,⟨h0,rfl,rfl⟩,h⟩
      ·exact ⟨_,⟨h0,rfl,rfl⟩,h⟩
      ·exact h.elim
   ·exact h.elim
 ·unfold A6d at *
  split at h
  ·exact h.elim
  ·split at h
   ·split at h
    ·exact h.elim
    ·split at h
     ·exact h.elim
     ·split at h
      ·obtain ⟨v,h1,h2⟩:=A9M h
       exact ⟨v,A2g (fun v' e=>⟨e,rfl⟩) h1,h2⟩
      ·exact h.elim
   ·exact h.elim
 ·unfold A1c at *
  split at h
  ·exact h.elim
  ·split at h
   ·split at h
    ·exact h.elim
    ·split at h
     ·split at h
      ·exact ⟨_,⟨h.1,h.2.1,rfl,rfl⟩,h.2.2⟩
      ·exact ⟨_,⟨h.1,h.2.1,rfl,rfl⟩,h.2.2⟩
      ·exact h.elim
     ·exact h.elim
   ·split at h
    ·exact h.elim
    ·split at h
     ·obtain ⟨h0,h⟩:=h
      split at h
      ·exact ⟨_,⟨h0,rfl,rfl⟩,h⟩
      ·exact ⟨_,⟨h0,rfl,rfl⟩,h⟩
      ·exact h.elim
     ·exact h.elim
   ·exact h.elim
 ·unfold A6e at *
  split at h
  ·exact h.elim
  ·split at h
   ·obtain ⟨h0,h⟩:=h
    exact ⟨_,⟨h0,rfl,rfl⟩,h⟩
   ·exact h.elim
 ·split at h
  ·exact ⟨_,⟨rfl,rfl⟩,h⟩
  ·exact h.elim
 ·unfold A3i at *
  split at h
  ·split at h
   ·exact ⟨_,⟨rfl,rfl⟩,h⟩
   ·exact h.elim
  ·exact h.elim
 ·rename_i c ho
  rw [ho] at hd
  split at h
  ·rename_i b hb
   simp only [A5U,X5,hb,Bool.or_false] at hd
   unfold A1u at *
   split at h
   ·split at h
    ·split at h
     ·split at h
      ·exact ⟨_,⟨rfl,rfl⟩,h⟩
      ·exact h.elim
     ·exact h.elim
    ·exact h.elim
   ·split at h
    ·split at h
     ·exact ⟨_,⟨rfl,rfl⟩,h⟩
     ·exact h.elim
    ·exact h.elim
   ·split at h
    ·split at h
     ·exact ⟨_,⟨rfl,rfl⟩,h⟩
     ·exact h.elim
    ·exact h.elim
   ·cases hd
   ·exact h.elim
  ·rename_i r name hb
   simp [A5U,X5,hb] at hd
  ·rename_i f hb
   simp [A5U,X5,hb] at hd
 ·exact h.elim
def B0W (P:Program) (T:G4) (M:H1) (frz:List Nat) (ops:List Oper) (eff ext:List Nat):List Nat→List AV→St→KA→Prop
 | [],A,st,k=>k A st
 | i::ord,A,st,k=>match ops[i]? with
  | none=>False
  | some o=>match (match ord with | [j]=>(match ops[j]? with | some o2=>(match eff.contains i&&eff.contains j with | true=>A4S frz o o2 | false=>none) | none=>none) | _=>none) with
   | some (p,t,u,y)=>(match ord with | [j]=>(match ops[j]? with | some o2=>B0y T p t u y o2.dst A st k | none=>False) | _=>False)
   | none=>A5m ops o A
    (match eff.contains i with
     | true=>xOp P T M (inF frz o.dst) o.op A st fun v st'=>A0U A o.dst v fun A'=>B0W P T M frz ops eff ext ord A' st' k
     | false=>match ext.contains i with
      | true=>∃ v,(∀ st',Ext st st'→xOp P T M (inF frz o.dst) o.op A st' fun v' st''=>v'=v∧st''=st')∧A0U A o.dst v fun A'=>B0W P T M frz ops eff ext ord A' st k
      | false=>match A5U o.op with
       | true=>xOp P T M (inF frz o.dst) o.op A st fun v _=>A0U A o.dst v fun A'=>B0W P T M frz ops eff ext ord A' st k
       | false=>∃ v,(xOp P T M (inF frz o.dst) o.op A st fun v' st''=>v'=v∧st''=st)∧A0U A o.dst v fun A'=>B0W P T M frz ops eff ext ord A' st k)
    (A0U A o.dst (.tuple []) fun A'=>B0W P T M frz ops eff ext ord A' st k)
theorem A5J {P:Program} {T:G4} {M:H1} {frz:List Nat} {ops:List Oper} {eff ext:List Nat}:∀ (ord:List Nat) (A:List AV) (st:St) (k:KA),B0W P T M frz ops eff ext ord A st k→A6S P T M ops eff ext ord A st (A6F k)
 | [],A,st,k,h=>⟨A,st,A4A.refl A st,h⟩
 | i::ord,A,st,k,h=>by
  unfold B0W at h
  cases ho:ops[i]? with
  | none=>rw [ho] at h;exact h.elim
  | some o =>
   rw [ho] at h
   simp only at h
   split at h
   ·rename_i p t u y hp
    split at hp
    ·rename_i j
     split at hp
     ·rename_i o2 ho2
      split at hp
      ·rename_i hee
       simp only [Bool.and_eq_true] at hee
       simp only [ho2] at h
       obtain ⟨g1,g2,h1⟩:=A5k (P:=P) (M:=M) hp h
       unfold A6S
       rw [ho]
       have w1:A0b ops o A=some true:=by unfold A0b;rw [g1]
       simp only [w1]
       refine ⟨fun _=>?_,fun e=>by cases e⟩
       rw [hee.1]
       refine L6 (fun v st' h2=>?_) h1
       unfold A6S
       rw [ho2]
       have w2:A0b ops o2 (I4 A o.dst v)=some true:=by unfold A0b;rw [g2]
       simp only [w2]
       refine ⟨fun _=>?_,fun e=>by cases e⟩
       rw [hee.2]
       exact L6 (fun v' st'' h3=>h3) h2
      ·cases hp
     ·cases hp
    ·cases hp
   ·unfold A6S
    rw [ho]
    simp only
    obtain ⟨b,hb,h1,h2⟩:=A3w h
    rw [hb]
    simp only
    refine ⟨fun e=>?_,fun e=>?_⟩
    ·have h1:=h1 e
     split at h1
     ·rename_i hc
      rw [hc]
      exact L6 (fun v st' hk=>by rw [Q7] at hk;exact A5J ord _ _ _ hk) (A2C h1)
     ·rename_i hc
      rw [hc]
      simp only
      split at h1
      ·rename_i hx
       rw [hx]
       obtain ⟨v,hv,hk⟩:=h1
       rw [Q7] at hk
       exact ⟨v,fun st' hs=>A2C (hv st' hs),A5J ord _ _ _ hk⟩
      ·rename_i hx
       rw [hx]
       simp only
       split at h1
       ·rename_i hdet
        obtain ⟨v,hv,hk⟩:=B2f hdet (A2C h1)
        rw [Q7] at hk
        exact ⟨v,hv,A5J ord _ _ _ hk⟩
       ·obtain ⟨v,hv,hk⟩:=h1
        rw [Q7] at hk
        exact ⟨v,A2C hv,A5J ord _ _ _ hk⟩
    ·have:=h2 e
     rw [Q7] at this
     exact A5J ord _ _ _ this
def B4V (P:Program) (T:G4) (M:H1) (frz:List Nat) (ops:List Oper) (i:Nat) (K:KA) (A:List AV) (st:St):Prop :=
 match ops[i]? with
 | none=>False
 | some o=>A5m ops o A (xOp P T M (inF frz o.dst) o.op A st fun v st'=>A0U A o.dst v fun A'=>K A' st') (A0U A o.dst (.tuple []) fun A'=>K A' st)
def C2X (P:Program) (T:G4) (M:H1) (frz:List Nat) (ops:List Oper) (i:Nat) (K:KA) (A:List AV) (st:St):Prop :=
 match ops[i]? with
 | none=>False
 | some o=>A5m ops o A
  (match A5U o.op with
   | true=>xOp P T M (inF frz o.dst) o.op A st fun v _=>A0U A o.dst v fun A'=>K A' st
   | false=>∃ v,(xOp P T M (inF frz o.dst) o.op A st fun v' st''=>v'=v∧st''=st)∧A0U A o.dst v fun A'=>K A' st)
  (A0U A o.dst (.tuple []) fun A'=>K A' st)
def A6a (P:Program) (T:G4) (M:H1) (frz:List Nat) (ops:List Oper):OT→List AV→St→KA→Prop
 | .done,A,st,k=>k A st
 | .gen i t,A,st,k=>B4V P T M frz ops i (fun A' st'=>A6a P T M frz ops t A' st' k) A st
 | .qui i t,A,st,k=>C2X P T M frz ops i (fun A' st'=>A6a P T M frz ops t A' st' k) A st
 | .two i j t u,A,st,k=>B4V P T M frz ops i (fun A' st'=>A6a P T M frz ops t A' st' k) A st∧B4V P T M frz ops j (fun A' st'=>A6a P T M frz ops u A' st' k) A st
theorem B3g {P:Program} {T:G4} {M:H1} {frz:List Nat} {ops:List Oper} {i:Nat} {K K':KA} {A:List AV} {st:St} (hK:∀ A st,K A st→K' A st) (h:B4V P T M frz ops i K A st):B0I P T M ops i K' A st:=by
 unfold B4V at h
 unfold B0I
 cases ho:ops[i]? with
 | none=>rw [ho] at h;exact h.elim
 | some o =>
  rw [ho] at h
  simp only at h ⊢
  obtain ⟨b,hb,h1,h2⟩:=A3w h
  rw [hb]
  refine ⟨fun e=>?_,fun e=>?_⟩
  ·exact L6 (fun v st' hk=>by rw [Q7] at hk;exact hK _ _ hk) (A2C (h1 e))
  ·have:=h2 e
   rw [Q7] at this;exact hK _ _ this
theorem C2Y {P:Program} {T:G4} {M:H1} {frz:List Nat} {ops:List Oper} {i:Nat} {K K':KA} {A:List AV} {st:St} (hK:∀ A st,K A st→K' A st) (h:C2X P T M frz ops i K A st):B9A P T M ops i K' A st:=by
 unfold C2X at h
 unfold B9A
 cases ho:ops[i]? with
 | none=>rw [ho] at h;exact h.elim
 | some o =>
  rw [ho] at h
  simp only at h ⊢
  obtain ⟨b,hb,h1,h2⟩:=A3w h
  rw [hb]
  refine ⟨fun e=>?_,fun e=>?_⟩
  ·have h1:=h1 e
   split at h1
   ·rename_i hdet
    obtain ⟨v,hv,hk⟩:=B2f hdet (A2C h1)
    rw [Q7] at hk
    exact ⟨v,hv,hK _ _ hk⟩
   ·obtain ⟨v,hv,hk⟩:=h1
    rw [Q7] at hk
    exact ⟨v,A2C hv,hK _ _ hk⟩
  ·have:=h2 e
   rw [Q7] at this;exact hK _ _ this
theorem A5l {P:Program} {T:G4} {M:H1} {frz:List Nat} {ops:List Oper}:∀ (t:OT) (A:List AV) (st:St) (k:KA),A6a P T M frz ops t A st k→A4f P T M ops t A st (A6F k)
 | .done,A,st,k,h=>⟨A,st,A4A.refl A st,h⟩
 | .gen i t,A,st,k,h=>B3g (fun A st h=>A5l t A st k h) h
 | .qui i t,A,st,k,h=>C2Y (fun A st h=>A5l t A st k h) h
 | .two i j t u,A,st,k,h=>⟨B3g (fun A st h=>A5l t A st k h) h.1,B3g (fun A st h=>A5l u A st k h) h.2⟩
def xDr (P:Program) (T:G4) (M:H1) (frz:List Nat) (ops:List Oper) (A:List AV) (st:St) (k:KA):Prop :=
 ∃ eff ext ord:List Nat,match ord with
  | []=>∃ t:OT,(Region.noSelect ops.toArray&&okT ops.toArray eff t ops.length (Array.replicate ops.length false))=true∧A6a P T M frz ops t A st k
  | _::_=>(Region.noSelect ops.toArray&&A9I ops.toArray eff ext ord (Array.replicate ops.length false)&&(ord.length==ops.length))=true∧B0W P T M frz ops eff ext ord A st k
theorem C1i {P:Program} {T:G4} {M:H1} {frz:List Nat} {ops:List Oper} {A:List AV} {st:St} {k:KA} (h:xDr P T M frz ops A st k):Dr P T M ops A st (A6F k):=by
 obtain ⟨eff,ext,ord,h⟩:=h
 refine ⟨eff,ext,ord,?_⟩
 split at h
 ·obtain ⟨t,h1,h2⟩:=h
  exact ⟨t,h1,A5l t _ _ _ h2⟩
 ·exact ⟨h.1,A5J _ _ _ _ h.2⟩
def B1B:Nat→(List AV→Prop)→Prop
 | 0,k=>k []
 | n+1,k=>B1B n fun A=>k (.junk::A)
theorem A9Z:∀ (n:Nat) (k:List AV→Prop),B1B n k=k (List.replicate n .junk)
 | 0,k=>rfl
 | n+1,k=>by rw [B1B,A9Z n];rfl
def A8p:List Nat→List AV→List AV→(List AV→Prop)→Prop
 | i::is,v::vs,A,k=>B2R A i v fun A'=>A8p is vs A' k
 | _,_,A,k=>k A
theorem B0h:∀ (is:List Nat) (vs A:List AV) (k:List AV→Prop),A8p is vs A k=k ((is.zip vs).foldl (fun A p=>A.set p.1 p.2) A)
 | [],vs,A,k=>by simp [A8p]
 | i::is,[],A,k=>by simp [A8p]
 | i::is,v::vs,A,k=>by simp only [A8p,A7n,B0h is vs,List.zip_cons_cons,List.foldl_cons]
def A3m (A:List AV):List Nat→(List AV→Prop)→Prop
 | [],k=>k []
 | i::is,k=>A8C A i fun v=>A3m A is fun vs=>k (v::vs)
theorem A0L (A:List AV):∀ (is:List Nat) (k:List AV→Prop),A3m A is k=k (is.map fun i=>A.getD i AV.junk)
 | [],k=>rfl
 | i::is,k=>by simp only [A3m,A3M,A0L A is,List.map_cons]
def X (P:Program) (T:G4) (M:H1) (frz:List Nat):Code→List AV→St→(Exit→KA)→Prop
 | .skip,A,st,K=>K .normal A st
 | .region _ ops draw,A,st,K=>match draw with
  | false=>B6y P T M frz ops.toList ops.toList A st (K .normal)
  | true=>xDr P T M frz ops.toList A st (K .normal)
 | .seq x y,A,st,K=>X P T M frz x A st fun e A' st'=>match e with
  | .normal=>X P T M frz y A' st' K
  | e=>K e A' st'
 | .cond c x y,A,st,K=>evK A c fun v=>match v with
  | .bool b=>A2K b (X P T M frz x A st K) (X P T M frz y A st K)
  | .ubool=>X P T M frz x A st K∧X P T M frz y A st K
  | _=>False
 | .block id c,A,st,K=>X P T M frz c A st fun e A' st'=>match e with
  | .exit j=>(match Nat.beq j id with | true=>K .normal A' st' | false=>K (.exit j) A' st')
  | e=>K e A' st'
 | .loop c,A,st,K=>∃ (keep:List Nat) (I:Nat→KA),(A3m A keep fun us=>∃ m,I m us st)∧∀ m vs st',I m vs st'→B1B A.length fun B=>A8p keep vs B fun A'=>X P T M frz c A' st' fun e A'' st''=>match e with
  | .normal=>A''.length=A.length∧A3m A'' keep fun us=>∃ m',m'<m∧I m' us st''
  | e=>K e A'' st''
 | .exit id,A,st,K=>K (.exit id) A st
 | .ret,A,st,K=>K .ret A st
 | _,_,_,_=>False
theorem B1Q {P:Program} {T:G4} {M:H1}:∀ (c:Code) (A:List AV) (st:St) (K K':Exit→KA),(∀ e A st,K e A st→K' e A st)→W P T M (Dr P T M) c A st K→W P T M (Dr P T M) c A st K':=by
 have hops:∀ (ops l:List Oper) (A:List AV) (st:St) (k k':KA),(∀ A st,k A st→k' A st)→A5M P T M ops l A st k→A5M P T M ops l A st k':=by
  intro ops l
  induction l with
  | nil=>intro A st k k' hk h;exact hk _ _ h
  | cons o l ih =>
   intro A st k k' hk h
   unfold A5M at h ⊢
   split at h
   ·exact h.elim
   ·exact ⟨fun e=>L6 (fun v st h=>ih _ _ _ _ hk h) (h.1 e),fun e=>ih _ _ _ _ hk (h.2 e)⟩
 have hrun:∀ (ops:List Oper) (eff ext ord:List Nat) (A:List AV) (st:St) (k k':KA),(∀ A st,k A st→k' A st)→A6S P T M ops eff ext ord A st k→A6S P T M ops eff ext ord A st k':=by
  intro ops eff ext ord
  induction ord with
  | nil=>intro A st k k' hk h;exact hk _ _ h
  | cons i ord ih =>
   intro A st k k' hk h
   unfold A6S at h ⊢
   split at h
   ·exact h
   ·split at h
    ·exact h
    ·refine ⟨fun e=>?_,fun e=>ih _ _ _ _ hk (h.2 e)⟩
     have h:=h.1 e
     split at h
     ·exact L6 (fun v st h=>ih _ _ _ _ hk h) h
     ·obtain ⟨v,h1,h2⟩:=h
      exact ⟨v,h1,ih _ _ _ _ hk h2⟩
 have hgen:∀ (ops:List Oper) (i:Nat) (A:List AV) (st:St) (k k':KA),(∀ A st,k A st→k' A st)→B0I P T M ops i k A st→B0I P T M ops i k' A st:=by
  intro ops i A st k k' hk h
  unfold B0I at h ⊢
  split at h
  ·exact h
  ·split at h
   ·exact h
   ·exact ⟨fun e=>L6 (fun v st h=>hk _ _ h) (h.1 e),fun e=>hk _ _ (h.2 e)⟩
 have hrunT:∀ (ops:List Oper) (t:OT) (A:List AV) (st:St) (k k':KA),(∀ A st,k A st→k' A st)→A4f P T M ops t A st k→A4f P T M ops t A st k':=by
  intro ops t
  induction t with
  | done=>intro A st k k' hk h;exact hk _ _ h
  | gen i t ih=>intro A st k k' hk h;exact hgen _ _ _ _ _ _ (fun A st h=>ih _ _ _ _ hk h) h
  | qui i t ih =>
   intro A st k k' hk h
   unfold A4f B9A at h ⊢
   split at h
   ·exact h
   ·split at h
    ·exact h
    ·refine ⟨fun e=>?_,fun e=>ih _ _ _ _ hk (h.2 e)⟩
     obtain ⟨v,h1,h2⟩:=h.1 e
     exact ⟨v,h1,ih _ _ _ _ hk h2⟩
  | two i j t u iht ihu=>intro A st k k' hk h;exact ⟨hgen _ _ _ _ _ _ (fun A st h=>iht _ _ _ _ hk h) h.1,hgen _ _ _ _ _ _ (fun A st h=>ihu _ _ _ _ hk h) h.2⟩
 intro c
 induction c with
 | skip=>intro A st K K' hK h;exact hK _ _ _ h
 | region id ops draw =>
  intro A st K K' hK h
  unfold W at h ⊢
  cases draw with
  | false=>exact hops _ _ _ _ _ _ (fun A st ⟨A',st',h1,h2⟩=>⟨A',st',h1,hK _ _ _ h2⟩) h
  | true =>
   obtain ⟨eff,ext,ord,h⟩:=h
   refine ⟨eff,ext,ord,?_⟩
   split at h
   ·obtain ⟨t,h1,h2⟩:=h
    exact ⟨t,h1,hrunT _ _ _ _ _ _ (fun A st ⟨A',st',h1,h2⟩=>⟨A',st',h1,hK _ _ _ h2⟩) h2⟩
   ·exact ⟨h.1,hrun _ _ _ _ _ _ _ _ (fun A st ⟨A',st',h1,h2⟩=>⟨A',st',h1,hK _ _ _ h2⟩) h.2⟩
 | seq x y ihx ihy =>
  intro A st K K' hK h
  unfold W at h ⊢
  refine ihx _ _ _ _ (fun e A st h=>?_) h
  cases e<;>first | exact hK _ _ _ h | exact ihy _ _ _ _ hK h
 | cond c x y ihx ihy =>
  intro A st K K' hK h
  unfold W at h ⊢
  split at h
  ·exact ⟨fun e=>ihx _ _ _ _ hK (h.1 e),fun e=>ihy _ _ _ _ hK (h.2 e)⟩
  ·exact ⟨ihx _ _ _ _ hK h.1,ihy _ _ _ _ hK h.2⟩
  ·exact h
 | block id c ih =>
  intro A st K K' hK h
  unfold W at h ⊢
  refine ih _ _ _ _ (fun e A st h=>?_) h
  cases e<;>simp only at h ⊢<;>try exact hK _ _ _ h
  split at h
  ·rename_i e;rw [if_pos e];exact hK _ _ _ h
  ·rename_i e;rw [if_neg e];exact hK _ _ _ h
 | loop c ih =>
  intro A st K K' hK h
  unfold W at h ⊢
  obtain ⟨keep,I,h0,hI⟩:=h
  refine ⟨keep,I,h0,fun m vs st' hi=>ih _ _ _ _ (fun e A st h=>?_) (hI m vs st' hi)⟩
  cases e<;>first | exact hK _ _ _ h | exact h
 | exit id=>intro A st K K' hK h;exact hK _ _ _ h
 | ret=>intro A st K K' hK h;exact hK _ _ _ h
 | rangeFunc _ _ _ _=>intro A st K K' hK h;exact h
 | scope _=>intro A st K K' hK h;exact h
 | label _=>intro A st K K' hK h;exact h
 | goto _=>intro A st K K' hK h;exact h
 | refuse _=>intro A st K K' hK h;exact h
theorem X_W {P:Program} {T:G4} {M:H1} {frz:List Nat}:∀ (c:Code) (A:List AV) (st:St) (K:Exit→KA),X P T M frz c A st K→W P T M (Dr P T M) c A st K:=by
 intro c
 induction c with
 | skip=>intro A st K h;exact h
 | region id ops draw =>
  intro A st K h
  unfold X at h
  unfold W
  cases draw with
  | false=>exact A8V _ _ _ _ h
  | true=>exact C1i h
 | seq x y ihx ihy =>
  intro A st K h
  unfold X at h
  unfold W
  refine B1Q _ _ _ _ _ (fun e A st h=>?_) (ihx _ _ _ h)
  cases e<;>first | exact h | exact ihy _ _ _ h
 | cond c x y ihx ihy =>
  intro A st K h
  unfold X at h
  unfold W
  rw [A2W] at h
  split at h
  ·rename_i b hb
   rw [hb]
   obtain ⟨h1,h2⟩:=(W1 _ _ _).1 h
   exact ⟨fun e=>ihx _ _ _ (h1 e),fun e=>ihy _ _ _ (h2 e)⟩
  ·rename_i hb
   rw [hb]
   exact ⟨ihx _ _ _ h.1,ihy _ _ _ h.2⟩
  ·exact h.elim
 | block id c ih =>
  intro A st K h
  unfold X at h
  unfold W
  refine B1Q _ _ _ _ _ (fun e A st h=>?_) (ih _ _ _ h)
  cases e<;>simp only at h ⊢<;>try exact h
  split at h
  ·rename_i e;rw [if_pos (Nat.eq_of_beq_eq_true e)];exact h
  ·rename_i e;rw [if_neg (Nat.ne_of_beq_eq_false e)];exact h
 | loop c ih =>
  intro A st K h
  unfold X at h
  unfold W
  obtain ⟨keep,I,h0,hI⟩:=h
  rw [A0L] at h0
  refine ⟨keep,I,h0,fun m vs st' hi=>?_⟩
  have h1:=hI m vs st' hi
  rw [A9Z,B0h] at h1
  refine B1Q _ _ _ _ _ (fun e A st h=>?_) (ih _ _ _ h1)
  cases e<;>first | exact h | (rw [A0L] at h;exact h)
 | exit id=>intro A st K h;exact h
 | ret=>intro A st K h;exact h
 | rangeFunc _ _ _ _=>intro A st K h;exact h
 | scope _=>intro A st K h;exact h
 | label _=>intro A st K h;exact h
 | goto _=>intro A st K h;exact h
 | refuse _=>intro A st K h;exact h
def C1j (T:G4) (A:List AV) (st:St) (r:ResultVar) (k:AV→Prop):Prop :=
 match r with
 | .tmp t=>A8C A t k
 | .cell t ty=>A8C A t fun p=>B4W T ty p st (fun v _=>k v)
def B4X (T:G4) (A:List AV) (st:St):List ResultVar→(List AV→Prop)→Prop
 | [],k=>k []
 | r::rs,k=>C1j T A st r fun v=>B4X T A st rs fun vs=>k (v::vs)
theorem A7w {T:G4} {A:List AV} {st:St}:∀ (rs:List ResultVar) (k:List AV→Prop),B4X T A st rs k→A8a T A st rs k
 | [],k,h=>h
 | r::rs,k,h=>by
  simp only [B4X] at h
  simp only [A8a]
  cases r with
  | tmp t=>simp only [C1j,B3p,A3M] at h ⊢;exact A7w rs _ h
  | cell t ty=>simp only [C1j,B3p,A3M] at h ⊢;exact A3D (fun v hv=>A7w rs _ hv) (B0x h)
def C4J (T:G4) (rs:List ResultVar) (post:KK):Exit→KA:=fun e A st=>match e with
 | .normal=>B4X T A st rs fun vs=>post (A8D vs) st
 | .ret=>B4X T A st rs fun vs=>post (A8D vs) st
 | _=>False
def C2T:Nat→(List AV→Prop)→Prop
 | 0,k=>k []
 | n+1,k=>C2T n fun A=>k (.tuple []::A)
theorem B7r:∀ (n:Nat) (k:List AV→Prop),C2T n k=k (List.replicate n (.tuple []))
 | 0,k=>rfl
 | n+1,k=>by rw [C2T,B7r n];rfl
def A6s:List AV→Nat→(List AV→Prop)→Prop
 | [],n,k=>C2T n k
 | v::vs,n,k=>A6s vs (n - 1) fun A=>k (v::A)
theorem A7Z:∀ (args:List AV) (n:Nat) (k:List AV→Prop),A6s args n k=k (start args n)
 | [],n,k=>by rw [A6s,B7r];simp [start]
 | v::vs,n,k=>by
  rw [A6s,A7Z vs (n - 1)]
  unfold start
  simp only [List.length_cons,List.cons_append]
  rw [show n - 1 - vs.length=n - (vs.length+1) from by omega]
theorem C1A {P:Program} {T:G4} {M:H1} (frz:List Nat) (hG:A6B P T M) (hm:P.follows .mixedOrders=true) {f:FuncId} {fn:Func} {c:Code} {args:List AV} {st:St} {post:KK} {n:Nat} {rs:Array ResultVar}
  (hf : P.funcs[f]? = some fn) (hname : (fn.name == "runtime.NumGoroutine") = false) (hb : fn.body = some c) (hn : fn.ntmps = n) (hr : fn.results = rs)
  (h:A6s args n fun A=>X P T M frz c A st (C4J T rs.toList post)):S P f args st post:=by
 subst hn;subst hr
 rw [A7Z] at h
 refine B9b hG (C3e hG hm) hf hname hb (B1Q _ _ _ _ _ (fun e A st h=>?_) (X_W _ _ _ _ h))
 cases e<;>first | exact h | (exact A7w _ _ h)
noncomputable def C1m (P:Program) (T:G4) (M:H1) (frz:List Nat) (ops:List Oper) (l:List Oper):List AV→St→KA→Prop :=
 List.rec (motive:=fun _=>List AV→St→KA→Prop) (fun A st k=>k A st)
  (fun o rest ih A st k=>match (match rest with | [o2]=>A4S frz o o2 | _=>none) with
   | some (p,t,u,y)=>(match rest with | [o2]=>B0y T p t u y o2.dst A st k | _=>False)
   | none=>match (match rest with | [om,o2]=>A7u frz o om o2 | _=>none) with
   | some (m,x,p,t,u,y)=>(match rest with | [_,o2]=>A8W T m x p t u y o2.dst A st k | _=>False)
   | none=>A5m ops o A
    (xOp P T M (inF frz o.dst) o.op A st fun v st'=>A0U A o.dst v fun A'=>ih A' st' k)
    (A0U A o.dst (.tuple []) fun A'=>ih A' st k)) l
theorem B3i {P:Program} {T:G4} {M:H1} {frz:List Nat} {ops:List Oper}:∀ l,C1m P T M frz ops l=B6y P T M frz ops l
 | []=>rfl
 | o::rest=>by
  funext A st k
  conv=>rhs;unfold B6y
  rw [←B3i rest]
  rfl
noncomputable def C7Z (P:Program) (T:G4) (M:H1) (frz:List Nat) (ops:List Oper) (eff ext:List Nat) (ord:List Nat):List AV→St→KA→Prop :=
 List.rec (motive:=fun _=>List AV→St→KA→Prop) (fun A st k=>k A st)
  (fun i ord ih A st k=>match ops[i]? with
   | none=>False
   | some o=>match (match ord with | [j]=>(match ops[j]? with | some o2=>(match eff.contains i&&eff.contains j with | true=>A4S frz o o2 | false=>none) | none=>none) | _=>none) with
    | some (p,t,u,y)=>(match ord with | [j]=>(match ops[j]? with | some o2=>B0y T p t u y o2.dst A st k | none=>False) | _=>False)
    | none=>A5m ops o A
     (match eff.contains i with
      | true=>xOp P T M (inF frz o.dst) o.op A st fun v st'=>A0U A o.dst v fun A'=>ih A' st' k
      | false=>match ext.contains i with
       | true=>∃ v,(∀ st',Ext st st'→xOp P T M (inF frz o.dst) o.op A st' fun v' st''=>v'=v∧st''=st')∧A0U A o.dst v fun A'=>ih A' st k
       | false=>match A5U o.op with
        | true=>xOp P T M (inF frz o.dst) o.op A st fun v _=>A0U A o.dst v fun A'=>ih A' st k
        | false=>∃ v,(xOp P T M (inF frz o.dst) o.op A st fun v' st''=>v'=v∧st''=st)∧A0U A o.dst v fun A'=>ih A' st k)
     (A0U A o.dst (.tuple []) fun A'=>ih A' st k)) ord
theorem B7w {P:Program} {T:G4} {M:H1} {frz:List Nat} {ops:List Oper} {eff ext:List Nat}:∀ l,C7Z P T M frz ops eff ext l=B0W P T M frz ops eff ext l
 | []=>rfl
 | i::ord=>by
  funext A st k
  conv=>rhs;unfold B0W
  rw [←B7w ord]
  rfl
noncomputable def C3x (P:Program) (T:G4) (M:H1) (frz:List Nat) (ops:List Oper) (t:OT):List AV→St→KA→Prop :=
 OT.rec (motive:=fun _=>List AV→St→KA→Prop) (fun A st k=>k A st)
  (fun i _ ih A st k=>B4V P T M frz ops i (fun A' st'=>ih A' st' k) A st)
  (fun i _ ih A st k=>C2X P T M frz ops i (fun A' st'=>ih A' st' k) A st)
  (fun i j _ _ iht ihu A st k=>B4V P T M frz ops i (fun A' st'=>iht A' st' k) A st∧B4V P T M frz ops j (fun A' st'=>ihu A' st' k) A st) t
theorem A5o {P:Program} {T:G4} {M:H1} {frz:List Nat} {ops:List Oper}:∀ t,C3x P T M frz ops t=A6a P T M frz ops t
 | .done=>rfl
 | .gen i t=>by
  funext A st k
  conv=>rhs;unfold A6a
  rw [←A5o t];rfl
 | .qui i t=>by
  funext A st k
  conv=>rhs;unfold A6a
  rw [←A5o t];rfl
 | .two i j t u=>by
  funext A st k
  conv=>rhs;unfold A6a
  rw [←A5o t,←A5o u];rfl
noncomputable def yDr (P:Program) (T:G4) (M:H1) (frz:List Nat) (ops:List Oper) (A:List AV) (st:St) (k:KA):Prop :=
 ∃ eff ext ord:List Nat,match ord with
  | []=>∃ t:OT,(Region.noSelect ops.toArray&&okT ops.toArray eff t ops.length (Array.replicate ops.length false))=true∧C3x P T M frz ops t A st k
  | _::_=>(Region.noSelect ops.toArray&&A9I ops.toArray eff ext ord (Array.replicate ops.length false)&&(ord.length==ops.length))=true∧C7Z P T M frz ops eff ext ord A st k
theorem C1l {P:Program} {T:G4} {M:H1} {frz:List Nat} {ops:List Oper} {A:List AV} {st:St} {k:KA}:yDr P T M frz ops A st k=xDr P T M frz ops A st k:=by
 unfold yDr xDr
 simp only [B7w,A5o]
noncomputable def Y (P:Program) (T:G4) (M:H1) (frz:List Nat) (c:Code):List AV→St→(Exit→KA)→Prop :=
 Code.rec (motive:=fun _=>List AV→St→(Exit→KA)→Prop)
  (fun A st K=>K .normal A st)
  (fun _ ops draw A st K=>match draw with
   | false=>C1m P T M frz ops.toList ops.toList A st (K .normal)
   | true=>yDr P T M frz ops.toList A st (K .normal))
  (fun _ _ x y A st K=>x A st fun e A' st'=>match e with
   | .normal=>y A' st' K
   | e=>K e A' st')
  (fun c _ _ x y A st K=>evK A c fun v=>match v with
   | .bool b=>A2K b (x A st K) (y A st K)
   | .ubool=>x A st K∧y A st K
   | _=>False)
  (fun id _ c A st K=>c A st fun e A' st'=>match e with
   | .exit j=>(match Nat.beq j id with | true=>K .normal A' st' | false=>K (.exit j) A' st')
   | e=>K e A' st')
  (fun _ c A st K=>∃ (keep:List Nat) (I:Nat→KA),(A3m A keep fun us=>∃ m,I m us st)∧∀ m vs st',I m vs st'→B1B A.length fun B=>A8p keep vs B fun A'=>c A' st' fun e A'' st''=>match e with
   | .normal=>A''.length=A.length∧A3m A'' keep fun us=>∃ m',m'<m∧I m' us st''
   | e=>K e A'' st'')
  (fun _ _ _ _ _ _ A st K=>False)
  (fun id A st K=>K (.exit id) A st)
  (fun _ _ A st K=>False)
  (fun _ A st K=>False)
  (fun _ A st K=>False)
  (fun A st K=>K .ret A st)
  (fun _ A st K=>False) c
theorem B5a {P:Program} {T:G4} {M:H1} {frz:List Nat}:∀ c,Y P T M frz c=X P T M frz c
 | .skip=>rfl
 | .region _ ops draw=>by
  funext A st K
  conv=>rhs;unfold X
  cases draw with
  | false=>show C1m _ _ _ _ _ _ _ _ _=_;rw [B3i]
  | true=>show yDr _ _ _ _ _ _ _ _=_;rw [C1l]
 | .seq x y=>by
  funext A st K
  conv=>rhs;unfold X
  rw [←B5a x,←B5a y]
  rfl
 | .cond c x y=>by
  funext A st K
  conv=>rhs;unfold X
  rw [←B5a x,←B5a y]
  rfl
 | .block id c=>by
  funext A st K
  conv=>rhs;unfold X
  rw [←B5a c]
  rfl
 | .loop c=>by
  funext A st K
  conv=>rhs;unfold X
  rw [←B5a c]
  rfl
 | .exit id=>rfl
 | .ret=>rfl
 | .rangeFunc _ _ _ _=>rfl
 | .scope _=>rfl
 | .label _=>rfl
 | .goto _=>rfl
 | .refuse _=>rfl
theorem A5 {P:Program} {T:G4} {M:H1} (frz:List Nat) (hG:A6B P T M) (hm:P.follows .mixedOrders=true) {f:FuncId} {fn:Func} {c:Code} {args:List AV} {st:St} {post:KK} {n:Nat} {rs:Array ResultVar}
  (hf : P.funcs[f]? = some fn) (hname : (fn.name == "runtime.NumGoroutine") = false) (hb : fn.body = some c) (hn : fn.ntmps = n) (hr : fn.results = rs)
  (h:A6s args n fun A=>Y P T M frz c A st (C4J T rs.toList post)):S P f args st post:=by
 rw [B5a] at h
 exact C1A frz hG hm hf hname hb hn hr h
theorem A0 (st:St) (b:Nat) (x:Q5):upd st b x b=some x:=by simp [upd]
theorem A8 {st:St} {b c:Nat} {x:Q5} (h:c≠b):upd st b x c=st c:=by simp [upd,h]
theorem B4S {st:St} {b c:Nat} {x:Q5} (h:upd st b x c=none):c≠b∧st c=none:=by
 unfold upd at h
 split at h
 ·cases h
 ·rename_i e;exact ⟨e,h⟩
theorem A5I (st:St) (b:Nat) (x y:Q5):upd (upd st b x) b y=upd st b y:=funext fun c=>by unfold upd;split<;>rfl
theorem A2H {st:St} {b:Nat} (h:st b=none) (x:Q5):del (upd st b x) b=st:=funext fun c=>by
 unfold del upd
 split
 ·rename_i e;rw [e,h]
 ·rfl
theorem call {P:Program} {f:FuncId} {args:List AV} {st:St} {post k:KK} (h:S P f args st post) (hk:∀ v st',post v st'→k v st'):A1C P f args st k:=by
 refine ⟨?_⟩;unfold A2k;exact ⟨args,st,B2.refl _ _,h.mono hk⟩
theorem A4 {P:Program} {f:FuncId} {args:List AV} {st:St} {v:AV} {k:KK} (h:S P f args st fun v' st'=>v'=v∧st'=st) (hk:k v st):A1C P f args st k :=
 call h fun v' st' ⟨e1,e2⟩=>by rw [e1,e2];exact hk
theorem I5 {P:Program} {f:FuncId} {args args':List AV} {st st':St} {k:KK} (hs:B2 args st args' st') (h:A1C P f args' st' k):A1C P f args st k:=by
 refine ⟨?_⟩
 have h:=h.out
 unfold A2k at *
 obtain ⟨a,s,h1,h2⟩:=h
 exact ⟨a,s,hs.trans h1,h2⟩
end Go.Ab
