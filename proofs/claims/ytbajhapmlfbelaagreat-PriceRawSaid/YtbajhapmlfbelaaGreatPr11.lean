/- Part 11 of the proof: contracts of the functions that the law reaches -/
import Derived.Test.YtbajhapmlfbelaaGreatPr10
set_option linter.unusedVariables false
set_option linter.unusedSimpArgs false
namespace Go.Ab
open Go
def A6S:List AV→Nat→(AV→Prop)→Prop
 | [],_,k=>k .junk
 | a::_,0,k=>k a
 | _::xs,n+1,k=>A6S xs n k
def B1H:List AV→Nat→AV→(List AV→Prop)→Prop
 | [],_,_,k=>k []
 | _::xs,0,v,k=>k (v::xs)
 | a::xs,n+1,v,k=>B1H xs n v fun xs'=>k (a::xs')
def A0w (A:List AV) (d:Option Tmp) (v:AV) (k:List AV→Prop):Prop:=match d with | some i=>B1H A i v k | none=>k A
theorem A2d:∀ (A:List AV) (i:Nat) (k:AV→Prop),A6S A i k=k (A.getD i .junk)
 | [],_,k=>by simp [A6S]
 | a::xs,0,k=>by simp [A6S]
 | a::xs,n+1,k=>by rw [A6S,A2d xs n k];simp
theorem A6w:∀ (A:List AV) (i:Nat) (v:AV) (k:List AV→Prop),B1H A i v k=k (A.set i v)
 | [],_,v,k=>by simp [B1H]
 | a::xs,0,v,k=>by simp [B1H]
 | a::xs,n+1,v,k=>by rw [B1H,A6w xs n v];simp
theorem P9 (A:List AV) (d:Option Tmp) (v:AV) (k:List AV→Prop):A0w A d v k=k (H7 A d v):=by
 cases d with
 | none=>rfl
 | some i=>exact A6w A i v k
def C3I (v:Value) (k:AV→Prop):Prop :=
 match v with
 | .bool b=>k (.bool b)
 | .int kk n=>k (.int kk n)
 | .string s=>k (.str s)
 | .pointer a=>(match a with | none=>k .nilp | some _=>k .junk)
 | .slice a l c=>(match a with | none=>(match l,c with | 0,0=>k .emp | _,_=>k .junk) | some _=>k .junk)
 | .nilFunc=>k .nilf
 | .nilIface=>k .nili
 | v=>k (J7 v)
theorem C0Q (v:Value) (k:AV→Prop):C3I v k=k (J7 v):=by
 cases v with
 | pointer a=>cases a<;>rfl
 | slice a l c=>cases a with
  | none=>cases l<;>cases c<;>rfl
  | some a=>rfl
 | _=>rfl
def evK (A:List AV) (x:Operand) (k:AV→Prop):Prop :=
 match x with
 | .tmp t=>A6S A t k
 | .const v=>C3I v k
 | .global _=>k .junk
 | .func f=>k (.fn (.func f) [] [])
theorem A3j (A:List AV) (x:Operand) (k:AV→Prop):evK A x k=k (ev A x):=by
 cases x with
 | tmp t=>exact A2d A t k
 | const v=>exact C0Q v k
 | _=>rfl
def B6m (A:List AV):List Operand→(List AV→Prop)→Prop
 | [],k=>k []
 | x::xs,k=>evK A x fun v=>B6m A xs fun vs=>k (v::vs)
theorem B5n (A:List AV):∀ (xs:List Operand) (k:List AV→Prop),B6m A xs k=k (xs.map (ev A))
 | [],k=>rfl
 | x::xs,k=>by simp only [B6m,A3j,B5n A xs,List.map_cons]
def B6l (A:List AV):List (Nat×Operand)→(List (Nat×AV)→Prop)→Prop
 | [],k=>k []
 | p::ps,k=>evK A p.2 fun v=>B6l A ps fun vs=>k ((p.1,v)::vs)
theorem A7O (A:List AV):∀ (ps:List (Nat×Operand)) (k:List (Nat×AV)→Prop),B6l A ps k=k (ps.map fun p=>(p.1,ev A p.2))
 | [],k=>rfl
 | p::ps,k=>by simp only [B6l,A3j,A7O A ps,List.map_cons]
def C0U (A:List AV) (x:Option Operand) (k:Option AV→Prop):Prop:=match x with | none=>k none | some y=>evK A y fun v=>k (some v)
theorem C0V (A:List AV) (x:Option Operand) (k:Option AV→Prop):C0U A x k=k (x.map (ev A)):=by
 cases x with
 | none=>rfl
 | some y=>exact A3j A y _
def A3z (b:Bool) (x y:Prop):Prop:=match b with | true=>x | false=>y
theorem W5 (b:Bool) (x y:Prop):A3z b x y↔(b=true→x)∧(b=false→y):=by cases b<;>simp [A3z]
theorem C0 {b:Bool} {x y:Prop} (h1:b=true→x) (h2:b=false→y):A3z b x y:=by cases b;exact h2 rfl;exact h1 rfl
structure A1c (P:Program) (f:FuncId) (args:List AV) (st:St) (k:KK):Prop where
 out:A1E P f args st k
def B7K:List AV→List AV→(List AV→Prop)→Prop
 | [],b,k=>k b
 | v::a,b,k=>B7K a b fun l=>k (v::l)
theorem A3d:∀ (a b:List AV) (k:List AV→Prop),B7K a b k=k (a++b)
 | [],b,k=>rfl
 | v::a,b,k=>by rw [B7K,A3d a b];rfl
def B8z:List AV→Nat→(Nat→Prop)→Prop
 | [],n,k=>k n
 | _::l,n,k=>B8z l (n+1) k
theorem B5u:∀ (l:List AV) (n:Nat) (k:Nat→Prop),B8z l n k=k (n+l.length)
 | [],n,k=>by simp [B8z]
 | a::l,n,k=>by rw [B8z,B5u l];simp [Nat.add_assoc,Nat.add_comm 1]
def B2K:List AV→List AV→(List AV→Prop)→Prop
 | cs,[],k=>k cs
 | _::cs,v::new,k=>B2K cs new fun r=>k (v::r)
 | [],_::_,k=>k []
def A6z:List AV→Nat→List AV→(List AV→Prop)→Prop
 | cs,0,new,k=>B2K cs new k
 | a::cs,n+1,new,k=>A6z cs n new fun r=>k (a::r)
 | [],_+1,_,k=>k []
theorem B2L:∀ (cs new:List AV) (k:List AV→Prop),new.length≤cs.length→B2K cs new k=k (new++cs.drop new.length)
 | cs,[],k,_=>by simp [B2K]
 | c::cs,v::new,k,h=>by rw [B2K,B2L cs new _ (by simpa using h)];simp
 | [],v::new,k,h=>by simp at h
theorem A9p:∀ (cs:List AV) (n:Nat) (new:List AV) (k:List AV→Prop),n+new.length≤cs.length→A6z cs n new k=k (cs.take n++new++cs.drop (n+new.length))
 | cs,0,new,k,h=>by rw [A6z,B2L cs new k (by omega)];simp
 | a::cs,n+1,new,k,h=>by
  rw [A6z,A9p cs n new _ (by simp at h;omega)]
  simp [show n+1+new.length=(n+new.length)+1 from by omega]
 | [],n+1,new,k,h=>by simp at h
def B0I (place:Nat→Option (Nat×Nat)):List (Nat×AV)→List AV→(List AV→Prop)→Prop
 | [],cells,k=>k cells
 | (i,v)::rest,cells,k=>match place i with
  | none=>False
  | some (off,size)=>match Nat.beq (cellsOf v).length size&&Nat.ble (off+size) cells.length&&(cellsOf v).all AV.one&&Nat.blt 0 size with
   | true=>A6z cells off (cellsOf v) fun cells'=>B0I place rest cells' k
   | false=>False
theorem A6F {place:Nat→Option (Nat×Nat)}:∀ (ps:List (Nat×AV)) (cells:List AV) (k:List AV→Prop),B0I place ps cells k→∃ out,A3x place cells ps=some out∧k out
 | [],cells,k,h=>⟨cells,rfl,h⟩
 | (i,v)::ps,cells,k,h=>by
  unfold B0I at h
  unfold A3x
  split at h
  ·exact h.elim
  ·rename_i off size hp
   rw [hp]
   simp only
   split at h
   ·rename_i hb
    simp only [Bool.and_eq_true,Nat.beq_eq,Nat.ble_eq,Nat.blt_eq] at hb
    obtain ⟨⟨⟨h1,h2⟩,h3⟩,h4⟩:=hb
    rw [A9p _ _ _ _ (by omega)] at h
    rw [if_neg (by simp only [not_or,Decidable.not_not,Bool.not_eq_false];exact ⟨h1,by omega,h3,by omega⟩)]
    rw [h1] at h
    exact A6F ps _ k h
   ·exact h.elim
def B4W (T:F9) (t:TypeId) (ps:List (Nat×AV)) (k:AV→Prop):Prop :=
 match T t with
 | none=>False
 | some r=>match r.desc with
  | .struct fs=>match places T fs.toList with
   | none=>False
   | some pl=>B0I (fun i=>pl[i]?) ps (cellsOf (J7 r.zero)) fun out=>k (.agg out)
  | .array n el=>match T el with
   | none=>False
   | some q=>B0I (fun i=>some (i * q.size,q.size)) ps (cellsOf (J7 r.zero)) fun out=>k (.agg out)
  | _=>False
theorem B7s {T:F9} {t:TypeId} {ps:List (Nat×AV)} {k:AV→Prop} (h:B4W T t ps k):A5m T t ps k:=by
 unfold B4W at h
 unfold A5m
 split at h
 ·exact h.elim
 ·rename_i r hr
  rw [hr]
  simp only
  split at h
  ·rename_i fs hd
   rw [hd]
   simp only
   split at h
   ·exact h.elim
   ·rename_i pl hp
    rw [hp]
    simp only
    obtain ⟨out,h1,h2⟩:=A6F _ _ _ h
    rw [h1];exact h2
  ·rename_i n el hd
   rw [hd]
   simp only
   split at h
   ·exact h.elim
   ·rename_i q hq
    rw [hq]
    simp only
    obtain ⟨out,h1,h2⟩:=A6F _ _ _ h
    rw [h1];exact h2
  ·exact h.elim
def A4r:Nat→List AV→(List AV→List AV→Prop)→Prop
 | 0,l,k=>k [] l
 | n+1,v::l,k=>A4r n l fun a b=>k (v::a) b
 | _+1,[],k=>k [] []
theorem A7h:∀ (n:Nat) (l:List AV) (k:List AV→List AV→Prop),A4r n l k=k (l.take n) (l.drop n)
 | 0,l,k=>by simp [A4r]
 | n+1,v::l,k=>by rw [A4r,A7h n l];simp
 | n+1,[],k=>by simp [A4r]
def A8s (agg:Bool) (e:Nat):Nat→List AV→(List AV→Prop)→Prop
 | 0,_,k=>k []
 | n+1,out,k=>match agg with
  | true=>A4r e out fun a b=>A8s agg e n b fun r=>k (.agg a::r)
  | false=>match out with
   | v::b=>A8s agg e n b fun r=>k (v::r)
   | []=>False
theorem B2v (agg:Bool) (e n:Nat) (out:List AV) (he:agg=false→e=1):Z1 agg e (n+1) out=(if agg then .agg (out.take e) else out.getD 0 .junk)::Z1 agg e n (out.drop e):=by
 unfold Z1
 rw [List.range_succ_eq_map,List.map_cons,List.map_map]
 congr 1
 ·cases agg<;>simp
 ·refine List.map_congr_left fun i _=>?_
  cases agg with
  | true =>
   simp only [Function.comp,if_true]
   rw [List.drop_drop,show (i+1) * e=e+i * e from by rw [Nat.add_mul];omega]
  | false =>
   have:=he rfl
   subst this
   simp
theorem A6T {agg:Bool} {e:Nat} (he:agg=false→e=1):∀ (n:Nat) (out:List AV) (k:List AV→Prop),A8s agg e n out k→k (Z1 agg e n out)
 | 0,out,k,h=>h
 | n+1,out,k,h=>by
  unfold A8s at h
  rw [B2v agg e n out he]
  cases agg with
  | true =>
   simp only [A7h] at h
   exact A6T he n _ _ h
  | false =>
   simp only at h
   have:=he rfl
   subst this
   split at h
   ·rename_i v b;exact A6T he n _ _ h
   ·exact h.elim
def C1G (fz:Bool) (ty:TypeId) (v:AV) (st:St) (k:KK):Prop :=
 match Nat.blt 0 (cellsOf v).length&&(cellsOf v).all AV.one with
 | true=>(match fz with
  | true=>k (.fptr v 0) st
  | false=>B8z (cellsOf v) 0 fun n=>∀ b,st b=none→k (.optr n b 0 0) (upd st b ⟨ty,n,1,fun _=>v⟩))
 | false=>False
theorem B5S {fz:Bool} {ty:TypeId} {v:AV} {st:St} {k:KK} (h:C1G fz ty v st k):B3L ty v st k:=by
 unfold C1G at h
 split at h
 ·rename_i hb
  simp only [Bool.and_eq_true,Nat.blt_eq] at hb
  cases fz with
  | true=>exact ⟨hb.1,hb.2,.inl h⟩
  | false =>
   simp only [B5u,Nat.zero_add] at h
   exact ⟨hb.1,hb.2,.inr h⟩
 ·exact h.elim
def C3p (fz:Bool) (T:F9) (t:TypeId) (len:Nat) (ps:List (Nat×AV)) (st:St) (k:KK):Prop :=
 match T t with
 | none=>False
 | some r=>match r.desc with
  | .slice el=>match T el with
   | none=>False
   | some q=>match Nat.blt 0 (len * q.size)&&Nat.ble (len * q.size) 16777216&&Nat.beq q.zero.cells.size q.size&&(q.agg||Nat.beq q.size 1) with
    | false=>False
    | true=>B0I (fun i=>some (i * q.size,q.size)) ps ((List.range (len * q.size)).map fun i=>(cellsOf (J7 q.zero)).getD (i % q.size) .junk) fun out=>match out.all AV.one with
    | false=>False
    | true=>A8s q.agg q.size len out fun els=>match fz with
     | false=>k (.arr q.size len (fun i=>els.getD i .junk)) st
     | true=>∀ b,st b=none→k (.own q.size b 0 len) (upd st b ⟨el,q.size,len,fun i=>els.getD i .junk⟩)
  | _=>False
theorem C1J {fz:Bool} {T:F9} {t:TypeId} {len:Nat} {ps:List (Nat×AV)} {st:St} {k:KK} (h:C3p fz T t len ps st k):Z9 T t len ps st k:=by
 unfold C3p at h
 unfold Z9
 split at h
 ·exact h.elim
 ·rename_i r hr
  rw [hr]
  simp only
  split at h
  ·rename_i el hd
   rw [hd]
   simp only
   split at h
   ·exact h.elim
   ·rename_i q hq
    rw [hq]
    split at h
    ·exact h.elim
    rename_i hb
    simp only [Bool.and_eq_true,Nat.blt_eq,Nat.ble_eq,Nat.beq_eq,Bool.or_eq_true] at hb
    obtain ⟨⟨⟨h1,h2⟩,h3⟩,h4'⟩:=hb
    have h4:q.agg=false→q.size=1:=fun e=>h4'.resolve_left (by simp [e])
    refine ⟨h1,h2,h3,h4,?_⟩
    obtain ⟨out,ho,h⟩:=A6F _ _ _ h
    rw [ho]
    split at h
    ·exact h.elim
    rename_i hone
    have h:=A6T h4 _ _ _ h
    refine ⟨hone,?_⟩
    cases fz with
    | false=>exact .inl h
    | true=>exact .inr h
  ·exact h.elim
def B0K (r:D2) (cs:List AV) (o:Nat) (k:AV→Prop):Prop :=
 match r.agg with
 | true=>(match Nat.ble (o+r.size) cs.length with
  | true=>A4r o cs fun _ b=>A4r r.size b fun c _=>k (.agg c)
  | false=>False)
 | false=>A6S cs o fun y=>match y with | .junk=>False | y=>k y
theorem A9C {r:D2} {cs:List AV} {o:Nat} {k:AV→Prop} (h:B0K r cs o k):pick r cs o k:=by
 unfold B0K at h
 unfold pick
 split at h
 ·rename_i e
  rw [e]
  split at h
  ·rename_i hb
   simp only [A7h] at h
   exact ⟨by simpa using hb,h⟩
  ·exact h.elim
 ·rename_i e
  rw [e]
  rw [A2d] at h
  simp only
  rw [List.getD_eq_getElem?_getD] at h
  cases hy:cs[o]? with
  | none=>rw [hy] at h;exact h.elim
  | some y=>rw [hy] at h;simp only [Option.getD_some] at h;split at h;exact h.elim;exact h
structure C3o (T:F9) (t:TypeId) (e b i o:Nat) (st:St) (k:KK):Prop where
 out:A1F T t (.optr e b i o) st k
def B3G (T:F9) (t:TypeId) (v:AV) (st:St) (k:KK):Prop :=
 match v with
 | .fptr v o=>(match T t with | some r=>B0K r (cellsOf v) o (fun y=>k y st) | none=>False)
 | .optr e b i o=>C3o T t e b i o st k
 | _=>False
theorem A9A {T:F9} {t:TypeId} {v:AV} {st:St} {k:KK} (h:B3G T t v st k):A1F T t v st k:=by
 unfold B3G at h
 split at h
 ·unfold A1F
  split at h
  ·rename_i hr;rw [hr];exact A9C h
  ·exact h.elim
 ·exact h.out
 ·exact h.elim
structure C3q (T:F9) (t:TypeId) (e b i o:Nat) (v:AV) (st:St) (k:KK):Prop where
 out:(match T t with | some r=>0<r.size | none=>False)∧A5p T t (.optr e b i o) v st k
def B9S (T:F9) (t:TypeId) (p v:AV) (st:St) (k:KK):Prop:=match p with | .optr e b i o=>C3q T t e b i o v st k | _=>False
structure A4w (T:F9) (t:TypeId) (s x:AV) (st:St) (k:KK):Prop where
 out:A3a T t s x st k
structure xMk (T:F9) (t:TypeId) (l c:AV) (st:St) (k:KK):Prop where
 out:A8c T t l c st k
def A9z (T:F9) (b:Builtin) (args:List AV) (ts:List TypeId) (st:St) (k:KK):Prop :=
 match b with
 | .append=>match args,ts with
  | [s,x],[t,u]=>(match Nat.beq t u with | true=>A4w T t s x st k | false=>False)
  | _,_=>False
 | b=>A0U T b args ts st k
theorem B3D {T:F9} {b:Builtin} {args:List AV} {ts:List TypeId} {st:St} {k:KK} (h:A9z T b args ts st k):A0U T b args ts st k:=by
 unfold A9z at h
 split at h
 ·unfold A0U
  split at h
  ·split at h
   ·rename_i e;exact ⟨Nat.eq_of_beq_eq_true e,h.out⟩
   ·exact h.elim
  ·exact h.elim
 ·exact h
def B1Y (P:Program) (T:F9) (M:H1) (r:AV) (name:String) (args:List AV) (st:St) (k:KK):Prop :=
 match r with
 | .iface t v=>match M t name with
  | some (f,none)=>A1c P f (v::args) st k
  | some (f,some el)=>B3G T el v st (fun u st'=>A1c P f (u::args) st' k)
  | none=>False
 | _=>False
theorem B4Z {P:Program} {T:F9} {M:H1} {r:AV} {name:String} {args:List AV} {st:St} {k:KK} (h:B1Y P T M r name args st k):A4D P T M r name args st k:=by
 unfold B1Y at h
 unfold A4D
 split at h
 ·rename_i t v
  simp only
  split at h
  ·rename_i f hf;rw [hf];exact h.out
  ·rename_i f el hf;rw [hf];exact A3b (k:=fun u st'=>A1c P f (u::args) st' k) (fun u hu=>hu.out) (A9A h)
  ·exact h.elim
 ·exact h.elim
def C3l (T:F9) (op:BinOp) (t:TypeId) (x y:AV) (k:AV→Prop):Prop :=
 match x,y,op with
 | .int kk a,.int _ b,.shl=>A3z (decide (b<0)) False (k (.int kk (kk.wrap (a * 2 ^ (min b.toNat kk.bits)))))
 | .int kk a,.int _ b,.shr=>A3z (decide (b<0)) False (k (.int kk (a.fdiv (2 ^ (min b.toNat kk.bits)))))
 | .int kk a,.int k' b,.quo=>match decide (kk=k') with | true=>A3z (decide (b=0)) False (k (.int kk (kk.wrap (a.tdiv b)))) | false=>False
 | .int kk a,.int k' b,.rem=>match decide (kk=k') with | true=>A3z (decide (b=0)) False (k (.int kk (a.tmod b))) | false=>False
 | x,y,op=>match B0P T op t x y with | some z=>k z | none=>False
theorem C1F {T:F9} {op:BinOp} {t:TypeId} {x y:AV} {k:AV→Prop} (h:C3l T op t x y k):match B0P T op t x y with | some z=>k z | none=>False:=by
 unfold C3l at h
 split at h
 ·obtain ⟨h1,h2⟩:=(W5 _ _ _).1 h
  rename_i kk a k' b
  by_cases hb:b<0
  ·exact (h1 (decide_eq_true hb)).elim
  ·simp only [B0P,A6I,if_neg hb];exact h2 (decide_eq_false hb)
 ·obtain ⟨h1,h2⟩:=(W5 _ _ _).1 h
  rename_i kk a k' b
  by_cases hb:b<0
  ·exact (h1 (decide_eq_true hb)).elim
  ·simp only [B0P,A6I,if_neg hb];exact h2 (decide_eq_false hb)
 ·rename_i kk a k' b
  by_cases hk:kk=k'
  ·rw [decide_eq_true hk] at h
   obtain ⟨h1,h2⟩:=(W5 _ _ _).1 h
   by_cases hb:b=0
   ·exact (h1 (decide_eq_true hb)).elim
   ·simp only [B0P,C0k,if_pos hk,if_neg hb];exact h2 (decide_eq_false hb)
  ·rw [decide_eq_false hk] at h;exact h.elim
 ·rename_i kk a k' b
  by_cases hk:kk=k'
  ·rw [decide_eq_true hk] at h
   obtain ⟨h1,h2⟩:=(W5 _ _ _).1 h
   by_cases hb:b=0
   ·exact (h1 (decide_eq_true hb)).elim
   ·simp only [B0P,C0k,if_pos hk,if_neg hb];exact h2 (decide_eq_false hb)
  ·rw [decide_eq_false hk] at h;exact h.elim
 ·exact h
def B9O (T:F9) (op:BinOp) (t:TypeId) (y:Operand) (vx vy:AV) (k:AV→Prop):Prop :=
 match C0l T op t y vx with
 | some z=>k z
 | none=>C3l T op t vx vy k
theorem B9P {T:F9} {op:BinOp} {t:TypeId} {y:Operand} {vx vy:AV} {k:AV→Prop} (h:B9O T op t y vx vy k):match B2f T op t y vx vy with | some z=>k z | none=>False:=by
 unfold B9O at h
 unfold B2f
 split at h
 ·rename_i z hz;rw [hz];exact h
 ·rename_i hz;rw [hz];exact C1F h
structure C3n (s:ByteArray) (j:Int) (k:AV→Prop):Prop where
 out:∃ h:0≤j∧j.toNat<s.size,k (.int .u8 ((s[j.toNat]'h.2).toNat:Int))
def B4Y (T:F9) (t:TypeId) (v i:AV) (k:AV→Prop):Prop :=
 match T t with
 | none=>False
 | some r=>match r.desc,v,i with
  | .string,.str s,.int _ j=>C3n s j k
  | .array n el,.agg cs,.int _ j=>match T el with
   | none=>False
   | some q=>(q.agg=false∧j.toNat * q.size<cs.length∧0≤j∧j<n)∧A6S cs (j.toNat * q.size) k
  | _,_,_=>False
theorem B7u {T:F9} {t:TypeId} {v i:AV} {k:AV→Prop} (h:B4Y T t v i k):A5o T t v i k:=by
 unfold B4Y at h
 unfold A5o
 split at h
 ·exact h.elim
 rename_i r hr
 rw [hr]
 simp only
 split at h
 ·rename_i s kk j hd
  rw [hd]
  exact h.out
 ·rename_i n el cs kk j hd
  rw [hd]
  split at h
  ·exact h.elim
  ·rename_i q hq
   rw [A2d] at h
   simp only [hq]
   exact h
 ·exact h.elim
def C0T (n:Nat) (k:Nat→Prop):Prop :=
 match n with
 | 0=>k 0 | 1=>k 1 | 2=>k 2 | 3=>k 3 | 4=>k 4 | 5=>k 5 | 6=>k 6 | 7=>k 7 | 8=>k 8 | 9=>k 9 | 10=>k 10 | 11=>k 11 | 12=>k 12 | 13=>k 13 | 14=>k 14 | 15=>k 15 | 16=>k 16 | 17=>k 17 | 18=>k 18 | 19=>k 19 | 20=>k 20 | n=>k n
theorem B5y (n:Nat) (k:Nat→Prop):C0T n k=k n:=by unfold C0T;split<;>rfl
def A5J (T:F9) (s:TypeId) (p:AV) (f:Nat) (k:AV→Prop):Prop :=
 match T s with
 | none=>False
 | some r=>match r.desc with
  | .struct fs=>match fs[f]? with
   | none=>False
   | some fl=>match T fl.type with
    | none=>False
    | some q=>match Nat.blt 0 q.size with
     | true=>(match p with
      | .fptr v o=>C0T (o+fl.offset) fun o'=>k (.fptr v o')
      | .optr e b i o=>C0T (o+fl.offset) fun o'=>k (.optr e b i o')
      | _=>False)
     | false=>False
  | _=>False
theorem A9W {T:F9} {s:TypeId} {p:AV} {f:Nat} {k:AV→Prop} (h:A5J T s p f k):Y9 T s p f k:=by
 unfold A5J at h
 unfold Y9
 split at h
 ·exact h.elim
 rename_i r hr
 rw [hr]
 simp only
 split at h
 case h_2=>exact h.elim
 rename_i fs hd
 rw [hd]
 simp only
 split at h
 ·exact h.elim
 rename_i fl hf
 rw [hf]
 simp only
 split at h
 ·exact h.elim
 rename_i q hq
 rw [hq]
 simp only
 split at h
 ·rename_i hb
  refine ⟨by simpa using hb,?_⟩
  split at h
  ·rw [B5y] at h;exact h
  ·rw [B5y] at h;exact h
  ·exact h.elim
 ·exact h.elim
def B4X (T:F9) (s:TypeId) (v:AV) (f:Nat) (k:AV→Prop):Prop :=
 match T s with
 | none=>False
 | some r=>match r.desc with
  | .struct fs=>match fs[f]? with
   | none=>False
   | some fl=>match T fl.type with
    | none=>False
    | some q=>match v with
     | .agg cs=>B0K q cs fl.offset k
     | _=>False
  | _=>False
theorem B7t {T:F9} {s:TypeId} {p:AV} {f:Nat} {k:AV→Prop} (h:B4X T s p f k):A5n T s p f k:=by
 unfold B4X at h
 unfold A5n
 split at h
 ·exact h.elim
 rename_i r hr
 rw [hr]
 simp only
 split at h
 case h_2=>exact h.elim
 rename_i fs hd
 rw [hd]
 simp only
 split at h
 ·exact h.elim
 rename_i fl hf
 rw [hf]
 simp only
 split at h
 ·exact h.elim
 rename_i q hq
 rw [hq]
 simp only
 split at h
 ·exact A9C h
 ·exact h.elim
def xOp (P:Program) (T:F9) (M:H1) (fz:Bool) (op:Op) (A:List AV) (st:St) (k:KK):Prop :=
 match op with
 | .move x=>evK A x fun v=>k v st
 | .assign x=>evK A x fun v=>k v st
 | .pick c x y=>evK A c fun v=>match v with | .bool b=>A3z b (evK A x fun u=>k u st) (evK A y fun u=>k u st) | _=>False
 | .binOp op t x y _=>evK A x fun v=>evK A y fun u=>B9O T op t y v u (fun z=>k z st)
 | .unOp op _ x=>evK A x fun v=>match aUn op v with | some z=>k z st | none=>False
 | .load t x=>evK A x fun v=>B3G T t v st k
 | .store t x y=>evK A x fun v=>evK A y fun u=>B9S T t v u st k
 | .alloc t=>match T t with | some r=>C1G fz t (J7 r.zero) st k | none=>False
 | .box t x=>evK A x fun v=>C1G fz t v st k
 | .build t ps=>B6l A ps.toList fun vs=>B4W T t vs (fun v=>k v st)
 | .buildSlice t n ps=>match n with
  | 0=>B6l A ps.toList fun vs=>B2i T t vs st k
  | m+1=>B6l A ps.toList fun vs=>C3p fz T t (m+1) vs st k
 | .nilCheck x=>evK A x fun v=>match A4E v with | true=>k v st | false=>False
 | .convert s d x=>evK A x fun v=>match A5R T s d v with | some z=>k z st | none=>False
 | .makeInterface t x=>evK A x fun v=>match B1f T t with | true=>k (.iface t v) st | false=>False
 | .makeFunc fn fs cs=>B6m A fs.toList fun us=>B6m A cs.toList fun vs=>k (.fn fn us vs) st
 | .makeSlice t l c=>evK A l fun v=>evK A c fun u=>xMk T t v u st k
 | .slice t x lo hi mx=>evK A x fun v=>C0U A lo fun l=>C0U A hi fun h=>C0U A mx fun m=>A6J T t v l h m (fun v=>k v st)
 | .fieldAddr s x f=>evK A x fun v=>A5J T s v f (fun v=>k v st)
 | .field s x f=>evK A x fun v=>B4X T s v f (fun v=>k v st)
 | .indexAddr t x i=>evK A x fun v=>evK A i fun u=>A0D T t v u (fun v=>k v st)
 | .index t x i=>evK A x fun v=>evK A i fun u=>B4Y T t v u (fun v=>k v st)
 | .typeAssert x _ t ok=>evK A x fun v=>match A7L T v t ok with | some z=>k z st | none=>False
 | .extract x i=>evK A x fun v=>A2D v i (fun v=>k v st)
 | .call c=>B6m A c.args.toList fun args=>match c.callee with
  | .builtin b=>A9z T b args c.argTypes.toList st k
  | .invoke r name=>evK A r fun v=>B1Y P T M v name args st k
  | .value f=>evK A f fun v=>match v with
   | .fn g fs cs=>(match g with | .func n=>B7K fs args fun l=>B7K l cs fun l=>A1c P n l st k | _=>False)
   | _=>False
 | _=>False
theorem A1X {P:Program} {T:F9} {M:H1} {fz:Bool} {o:Oper} {A:List AV} {st:St} {k:KK} (h:xOp P T M fz o.op A st k):aOp P T M o A st k:=by
 obtain ⟨dst,op,type,pos,after,guard⟩:=o
 unfold aOp
 cases op<;>simp only [xOp,A3j,B5n,A7O,C0V,A3d] at h ⊢<;>try exact h
 case alloc t =>
  split at h
  ·rename_i r hr;rw [hr];exact B5S h
  ·exact h.elim
 case box t x=>exact B5S h
 case fieldAddr t x f=>exact A9W h
 case field t x f=>exact B7t h
 case binOp op t x y _=>exact B9P h
 case index t x f=>exact B7u h
 case load t x=>exact A9A h
 case store t x y =>
  unfold B9S at h
  split at h
  ·rename_i hv;rw [hv];exact h.out
  ·exact h.elim
 case makeSlice t l c=>exact h.out
 case build t ps=>exact B7s h
 case buildSlice t n ps =>
  cases n with
  | zero=>simp only [A7O] at h;exact h
  | succ m=>simp only [A7O] at h;exact C1J h
 case pick c x y =>
  split at h
  ·rename_i b hb
   simp only [hb]
   exact (W5 _ _ _).1 h
  ·exact h.elim
 case nilCheck x =>
  split at h
  ·rename_i hb;exact ⟨hb,h⟩
  ·exact h.elim
 case makeInterface t x =>
  split at h
  ·rename_i hb;exact ⟨hb,h⟩
  ·exact h.elim
 case call c =>
  obtain ⟨callee,args,ts⟩:=c
  cases callee with
  | builtin b=>exact B3D h
  | invoke r name=>simp only [A3j] at h;exact B4Z h
  | value f =>
   simp only [A3j,A3d] at h
   simp only [A3c]
   split at h
   ·rename_i g fs cs hf
    rw [hf]
    simp only
    split at h
    ·exact h.out
    ·exact h.elim
   ·exact h.elim
def A4z (ops:List Oper) (o:Oper) (A:List AV) (x y:Prop):Prop :=
 match o.guard with
 | none=>x
 | some (g,want)=>match ops[g]? with
  | none=>y
  | some p=>match p.dst with
   | none=>y
   | some d=>A6S A d fun v=>match v with
    | .bool b=>(match want with | true=>A3z b x y | false=>A3z b y x)
    | .tuple _=>y
    | _=>False
theorem A2T {ops:List Oper} {o:Oper} {A:List AV} {x y:Prop} (h:A4z ops o A x y):∃ b,Y1 ops o A=some b∧(b=true→x)∧(b=false→y):=by
 unfold A4z at h
 unfold Y1
 split at h
 ·rename_i hg;exact ⟨true,by simp [hg],fun _=>h,fun e=>by cases e⟩
 ·rename_i g want hg
  simp only [hg]
  split at h
  ·rename_i hp;exact ⟨false,by simp [hp],(fun e=>by cases e),fun _=>h⟩
  ·rename_i p hp
   simp only [hp]
   split at h
   ·rename_i hd;exact ⟨false,by simp [hd],(fun e=>by cases e),fun _=>h⟩
   ·rename_i d hd
    simp only [hd]
    rw [A2d] at h
    rw [List.getD_eq_getElem?_getD] at h
    cases hA:A[d]? with
    | none=>exact ⟨false,by simp,(fun e=>by cases e),fun _=>by rw [hA] at h;exact h.elim⟩
    | some v =>
     rw [hA] at h
     simp only [Option.getD_some] at h
     split at h
     ·rename_i b
      cases want with
      | true=>exact ⟨b,by simp,(W5 _ _ _).1 h⟩
      | false=>exact ⟨!b,by simp,fun e=>((W5 _ _ _).1 h).2 (by simpa using e),fun e=>((W5 _ _ _).1 h).1 (by simpa using e)⟩
     ·exact ⟨false,rfl,(fun e=>by cases e),fun _=>h⟩
     ·exact h.elim
def inF (frz:List Nat) (d:Option Tmp):Bool:=match d with | some p=>frz.contains p | none=>false
def A4e (frz:List Nat) (o1 o2:Oper):Option (Tmp×TypeId×TypeId×Operand) :=
 match o1.guard,o2.guard with
 | none,none=>match o1.op,o1.dst,o2.op with
  | .alloc t,some p,.store u (.tmp q) y=>(match Nat.beq p q&&frz.contains p with | true=>some (p,t,u,y) | false=>none)
  | _,_,_=>none
 | _,_=>none
theorem B4c {rd:Addr→Option Value} {sz:Nat→Nat} {v v':AV} {r:Nat} {c:Value} (he:cellsOf v=cellsOf v') (h:Rep rd sz (.fptr v r) c):Rep rd sz (.fptr v' r) c:=by
 cases h with
 | fptr v r a g hr hg=>exact .fptr v' r a g (fun j hj=>hr j (by rw [he];exact hj)) (fun j y hy=>hg j y (by rw [he];exact hy))
theorem C0D {A:List AV} {st:St} {p b:Nat} {d:Option Tmp} {x y:Q3} {v:AV} {e:Nat} (hb:st b=none) (hn:0<y.n) (hv:cellsOf (y.f 0)=cellsOf v) (hp:p<A.length) (hd:d≠some p) :
  A3R (H7 (H7 A (some p) (.optr e b 0 0)) d (.tuple [])) (upd (upd st b x) b y) (H7 (H7 A (some p) (.fptr v 0)) d (.tuple [])) st:=by
 intro w a hA hS
 have hst:upd (upd st b x) b y b=some y:=by simp [upd]
 have hne:∀ c,c≠b→upd (upd st b x) b y c=st c:=fun c hc=>by simp [upd,hc]
 have he:X7 (upd (upd st b x) b y) w st w:=⟨rfl,rfl,rfl,Nat.le_refl _,fun c _ hs=>⟨rfl,by
  by_cases hc:c=b
  ·subst hc;exact hb
  ·rw [hne c hc] at hs;exact hs⟩,fun _=>Nat.le_refl _⟩
 obtain ⟨cs,hok⟩:=hS b y hst
 refine ⟨⟨by have:=hA.len;simp [H7] at this ⊢;cases d<;>simp_all,fun i u hu=>?_,hA.defers⟩,fun c z hz=>?_,he⟩
 ·by_cases hi:i=p
  ·subst hi
   have hpt:(H7 (H7 A (some i) (.optr e b 0 0)) d (.tuple []))[i]?=some (.optr e b 0 0):=by
    cases d with
    | none=>simp [H7,hp]
    | some q=>simp only [H7];rw [List.getElem?_set_ne (fun h=>hd (by rw [h]))];simp [hp]
   have hpt':(H7 (H7 A (some i) (.fptr v 0)) d (.tuple []))[i]?=some (.fptr v 0):=by
    cases d with
    | none=>simp [H7,hp]
    | some q=>simp only [H7];rw [List.getElem?_set_ne (fun h=>hd (by rw [h]))];simp [hp]
   rw [hpt'] at hu
   cases hu
   obtain ⟨c,hc1,hc2⟩:=hA.at_ i _ hpt
   refine ⟨c,hc1,?_⟩
   cases hc2
   have:=B4c hv (A7o (hok.evo he rfl) hb hn)
   simpa using this
  ·have hsame:(H7 (H7 A (some p) (.optr e b 0 0)) d (.tuple []))[i]?=(H7 (H7 A (some p) (.fptr v 0)) d (.tuple []))[i]?:=by
    cases d with
    | none=>simp only [H7];rw [List.getElem?_set_ne (fun h=>hi h.symm),List.getElem?_set_ne (fun h=>hi h.symm)]
    | some q =>
     simp only [H7,List.getElem?_set,List.length_set]
     rw [if_neg (show ¬ p=i from fun h=>hi h.symm),if_neg (show ¬ p=i from fun h=>hi h.symm)]
   rw [←hsame] at hu
   obtain ⟨c,hc1,hc2⟩:=hA.at_ i u hu
   exact ⟨c,hc1,he.rep hc2⟩
 ·have hc:c≠b:=fun h=>by rw [h,hb] at hz;cases hz
  obtain ⟨ds,hd'⟩:=hS c z (by rw [hne c hc];exact hz)
  exact ⟨ds,hd'.evo he rfl⟩
def B4o (d:Option Tmp) (p:Tmp):Bool:=match d with | some q=>!Nat.beq q p | none=>true
def B5z (y:Operand) (p:Tmp):Bool:=match y with | .tmp q=>!Nat.beq q p | _=>true
theorem B6C {d:Option Tmp} {p:Tmp} (h:B4o d p=true):d≠some p:=fun e=>by subst e;simp [B4o] at h
theorem B2G {y:Operand} {p:Tmp} (h:B5z y p=true):y≠.tmp p:=fun e=>by subst e;simp [B5z] at h
def A9B (T:F9) (p:Tmp) (t u:TypeId) (y:Operand) (d:Option Tmp) (A:List AV) (st:St) (k:KA):Prop :=
 match T t,T u with
 | some r,some q=>evK A y fun v=>match Nat.blt p A.length&&B4o d p&&Nat.blt 0 q.size&&Nat.beq (cellsOf (J7 r.zero)).length q.size&&(cellsOf (J7 r.zero)).all AV.one&&Nat.beq (cellsOf v).length q.size&&(cellsOf v).all AV.one&&B5z y p with
   | true=>B1H A p (.fptr v 0) fun A'=>A0w A' d (.tuple []) fun A''=>k A'' st
   | false=>False
 | _,_=>False
theorem B1G {v:AV} {cs:List AV} (h:cs.length=(cellsOf v).length) (h1:cs.all AV.one=true) (h2:0<cs.length):cellsOf (N8 v 0 cs)=cs:=by
 rw [A4n (by omega) h1 h2]
 simp [h]
theorem A4x {P:Program} {T:F9} {M:H1} {frz:List Nat} {o1 o2:Oper} {p:Tmp} {t u:TypeId} {y:Operand} (hp:A4e frz o1 o2=some (p,t,u,y)) {A:List AV} {st:St} {k:KA} (h:A9B T p t u y o2.dst A st k) :
  o1.guard=none∧o2.guard=none∧aOp P T M o1 A st fun v st'=>aOp P T M o2 (H7 A o1.dst v) st' fun v' st''=>A3I k (H7 (H7 A o1.dst v) o2.dst v') st'':=by
 unfold A4e at hp
 split at hp
 case h_2=>cases hp
 rename_i hg1 hg2
 split at hp
 case h_2=>cases hp
 rename_i t' p' u' q' y' ho1 hd1 ho2
 split at hp
 case h_2=>cases hp
 rename_i hb
 cases hp
 simp only [Bool.and_eq_true] at hb
 obtain rfl:=Nat.eq_of_beq_eq_true hb.1
 refine ⟨hg1,hg2,?_⟩
 unfold A9B at h
 split at h
 case h_2=>exact h.elim
 rename_i r q hr hq
 rw [A3j] at h
 split at h
 case h_2=>exact h.elim
 rename_i hb
 simp only [Bool.and_eq_true,Nat.blt_eq,Nat.beq_eq] at hb
 obtain ⟨⟨⟨⟨⟨⟨⟨hlt,hd⟩,hq0⟩,hz1⟩,hz2⟩,hv1⟩,hv2⟩,hy⟩:=hb
 have hd:=B6C hd
 have hy:=B2G hy
 rw [A6w,P9] at h
 have hk:=h
 unfold aOp
 rw [ho1,ho2,hd1]
 simp only [hr,hq]
 refine ⟨by omega,hz2,.inr fun b hb=>⟨hq0,?_⟩⟩
 have hevp:ev (H7 A (some p) (.optr (cellsOf (J7 r.zero)).length b 0 0)) (.tmp p)=.optr (cellsOf (J7 r.zero)).length b 0 0:=by
  simp [ev,H7,hlt]
 have hevy:ev (H7 A (some p) (.optr (cellsOf (J7 r.zero)).length b 0 0)) y=ev A y:=B4a fun t ht hyt=>by
  cases ht;exact hy hyt
 unfold A5p
 simp only [hq,hevp,hevy]
 have hst:upd st b ⟨t,(cellsOf (J7 r.zero)).length,1,fun _=>J7 r.zero⟩ b=some ⟨t,(cellsOf (J7 r.zero)).length,1,fun _=>J7 r.zero⟩:=by simp [upd]
 rw [hst]
 refine ⟨rfl,Nat.one_pos,hv1,hv2,by simp only;omega,_,_,C0D hb Nat.one_pos ?_ hlt hd,hk⟩
 simp only [H2,if_true]
 exact B1G (by omega) hv2 (by omega)
def A6E (frz:List Nat) (o om o2:Oper):Option (Tmp×Operand×Tmp×TypeId×TypeId×Operand) :=
 match om.guard,om.op,om.dst,A4e frz o o2 with
 | none,.assign x,some m,some (p,t,u,y)=>(match !Nat.beq m p&&B5z x p with | true=>some (m,x,p,t,u,y) | false=>none)
 | _,_,_,_=>none
def A7Y (T:F9) (m:Tmp) (x:Operand) (p:Tmp) (t u:TypeId) (y:Operand) (d:Option Tmp) (A:List AV) (st:St) (k:KA):Prop :=
 evK A x fun v=>B1H A m v fun A1=>A9B T p t u y d A1 st k
theorem A9I {P:Program} {T:F9} {M:H1} {o:Oper} {t:TypeId} (ho:o.op=.alloc t) {A B:List AV} {st:St} {k:KK} (h:aOp P T M o A st k):aOp P T M o B st k:=by
 unfold aOp at *
 rw [ho] at h ⊢
 exact h
theorem A9Y {P:Program} {T:F9} {M:H1} {frz:List Nat} {o1 om o2:Oper} {m p:Tmp} {x:Operand} {t u:TypeId} {y:Operand} (hp:A6E frz o1 om o2=some (m,x,p,t,u,y)) {A:List AV} {st:St} {k:KA} (h:A7Y T m x p t u y o2.dst A st k) :
  o1.guard=none∧om.guard=none∧o2.guard=none∧aOp P T M o1 A st fun v st'=>aOp P T M om (H7 A o1.dst v) st' fun v1 st1=>aOp P T M o2 (H7 (H7 A o1.dst v) om.dst v1) st1 fun v' st''=>A3I k (H7 (H7 (H7 A o1.dst v) om.dst v1) o2.dst v') st'':=by
 unfold A6E at hp
 split at hp
 case h_2=>cases hp
 rename_i x' m' p' t' u' y' hg hop hdst hpr
 split at hp
 case h_2=>cases hp
 rename_i hb
 cases hp
 simp only [Bool.and_eq_true,Bool.not_eq_true'] at hb
 have hmp:m≠p:=fun e=>by subst e;simp at hb
 have hxp:x≠.tmp p:=B2G hb.2
 unfold A7Y at h
 rw [A3j,A6w] at h
 obtain ⟨g1,g2,h1⟩:=A4x (P:=P) (M:=M) hpr h
 have hal:∃ t0,o1.op=.alloc t0∧o1.dst=some p:=by
  unfold A4e at hpr
  split at hpr
  case h_2=>cases hpr
  split at hpr
  case h_2=>cases hpr
  rename_i t0 p0 u0 q0 y0 ho1 hd1 ho2
  split at hpr
  case h_2=>cases hpr
  cases hpr
  exact ⟨_,ho1,hd1⟩
 obtain ⟨t0,ho1,hd1⟩:=hal
 refine ⟨g1,hg,g2,O4 (fun v st' h2=>?_) (A9I (B:=A) ho1 h1)⟩
 have e1:ev (H7 A (some p) v) x=ev A x:=B4a fun t ht hx=>by cases ht;exact hxp hx
 have e2:H7 (H7 A (some p) v) (some m) (ev A x)=H7 (A.set m (ev A x)) (some p) v:=by
  have:=A4O A (x:=some p) (y:=some m) v (ev A x) (fun d hd e=>by cases hd;cases e;exact hmp rfl)
  exact this
 rw [hd1] at h2 ⊢
 rw [hdst]
 unfold aOp
 rw [hop]
 simp only [e1,e2]
 exact h2
def B7v (P:Program) (T:F9) (M:H1) (frz:List Nat) (ops:List Oper):List Oper→List AV→St→KA→Prop
 | [],A,st,k=>k A st
 | o::rest,A,st,k=>match (match rest with | [o2]=>A4e frz o o2 | _=>none) with
  | some (p,t,u,y)=>(match rest with | [o2]=>A9B T p t u y o2.dst A st k | _=>False)
  | none=>match (match rest with | [om,o2]=>A6E frz o om o2 | _=>none) with
  | some (m,x,p,t,u,y)=>(match rest with | [_,o2]=>A7Y T m x p t u y o2.dst A st k | _=>False)
  | none=>A4z ops o A
   (xOp P T M (inF frz o.dst) o.op A st fun v st'=>A0w A o.dst v fun A'=>B7v P T M frz ops rest A' st' k)
   (A0w A o.dst (.tuple []) fun A'=>B7v P T M frz ops rest A' st k)
theorem A2E {P:Program} {T:F9} {M:H1} {ops:List Oper} {o:Oper} {rest:List Oper} {A:List AV} {st:St} {k:KA} (hg:o.guard=none) (h:aOp P T M o A st fun v st'=>A6H P T M ops rest (H7 A o.dst v) st' k):A6H P T M ops (o::rest) A st k:=by
 unfold A6H Y1
 rw [hg]
 exact ⟨fun _=>h,fun e=>by cases e⟩
theorem A7X {P:Program} {T:F9} {M:H1} {frz:List Nat} {ops:List Oper}:∀ (l:List Oper) (A:List AV) (st:St) (k:KA),B7v P T M frz ops l A st k→A6H P T M ops l A st (A3I k)
 | [],A,st,k,h=>⟨A,st,A3R.refl A st,h⟩
 | o::rest,A,st,k,h=>by
  unfold B7v at h
  split at h
  ·rename_i p t u y hp
   split at hp
   ·rename_i o2
    obtain ⟨g1,g2,h1⟩:=A4x (P:=P) (M:=M) hp h
    exact A2E g1 (O4 (fun v st' h2=>A2E g2 h2) h1)
   ·cases hp
  ·split at h
   ·rename_i m x p t u y hp
    split at hp
    ·rename_i om o2
     obtain ⟨g1,g2,g3,h1⟩:=A9Y (P:=P) (M:=M) hp h
     exact A2E g1 (O4 (fun v st' h2=>A2E g2 (O4 (fun v1 st1 h3=>A2E g3 h3) h2)) h1)
    ·cases hp
   obtain ⟨b,hb,h1,h2⟩:=A2T h
   unfold A6H
   rw [hb]
   refine ⟨fun e=>O4 (fun v st' hk=>?_) (A1X (h1 e)),fun e=>?_⟩
   ·rw [P9] at hk;exact A7X rest _ _ _ hk
   ·have:=h2 e;rw [P9] at this;exact A7X rest _ _ _ this
def A8u (op:Op):Bool:=Z2 op||(match op with | .load ..=>true | _=>false)
theorem B2M {r:D2} {cs:List AV} {i:Nat} {k:AV→Prop} (h:pick r cs i k):∃ v,(pick r cs i fun v'=>v'=v)∧k v:=by
 unfold pick at *
 split at h
 ·exact ⟨_,⟨h.1,rfl⟩,h.2⟩
 ·split at h
  ·exact ⟨_,rfl,h⟩
  ·exact h.elim
theorem B1a {P:Program} {T:F9} {M:H1} {o:Oper} (hd:A8u o.op=true) {A:List AV} {st:St} {k:KK} (h:aOp P T M o A st k):∃ v,(aOp P T M o A st fun v' s=>v'=v∧s=st)∧k v st:=by
 unfold aOp at *
 split at h
 all_goals repeat' first
  | exact h.elim
  | exact ⟨_,⟨rfl,rfl⟩,h⟩
  | exact ⟨_,⟨h.1,rfl,rfl⟩,h.2⟩
  | exact ⟨_,⟨h.1,h.2.1,rfl,rfl⟩,h.2.2⟩
  | exact ⟨_,⟨h.1,h.2.1,h.2.2.1,rfl,rfl⟩,h.2.2.2⟩
  | exact ⟨_,⟨h.1,h.2.1,h.2.2.1,h.2.2.2.1,rfl,rfl⟩,h.2.2.2.2⟩
  | (obtain ⟨v,h1,h2⟩:=B2M h;exact ⟨v,A2M (fun v' e=>⟨e,rfl⟩) h1,h2⟩)
  | (obtain ⟨v,h1,h2⟩:=B2M h.2.2;exact ⟨v,⟨h.1,h.2.1,A2M (fun v' e=>⟨e,rfl⟩) h1⟩,h2⟩)
  | (obtain ⟨h0,h⟩:=h;split at h<;>first | exact h.elim | exact ⟨_,⟨h0,rfl,rfl⟩,h⟩)
  | (rename_i b hb;cases b;exact ⟨_,⟨(fun e=>by cases e),fun _=>⟨rfl,rfl⟩⟩,h.2 rfl⟩;exact ⟨_,⟨fun _=>⟨rfl,rfl⟩,fun e=>by cases e⟩,h.1 rfl⟩)
  | split at h
  | unfold A1F at h ⊢ | unfold A5m at h ⊢ | unfold A6J at h ⊢ | unfold Y9 at h ⊢ | unfold A5n at h ⊢ | unfold A0D at h ⊢ | unfold A5o at h ⊢ | unfold A2D at h ⊢ | unfold A0U at h ⊢
  | (exfalso;clear h;simp_all [A8u,Z2];done)
def A9X (P:Program) (T:F9) (M:H1) (frz:List Nat) (ops:List Oper) (eff ext:List Nat):List Nat→List AV→St→KA→Prop
 | [],A,st,k=>k A st
 | i::ord,A,st,k=>match ops[i]? with
  | none=>False
  | some o=>match (match ord with | [j]=>(match ops[j]? with | some o2=>(match eff.contains i&&eff.contains j with | true=>A4e frz o o2 | false=>none) | none=>none) | _=>none) with
   | some (p,t,u,y)=>(match ord with | [j]=>(match ops[j]? with | some o2=>A9B T p t u y o2.dst A st k | none=>False) | _=>False)
   | none=>A4z ops o A
    (match eff.contains i with
     | true=>xOp P T M (inF frz o.dst) o.op A st fun v st'=>A0w A o.dst v fun A'=>A9X P T M frz ops eff ext ord A' st' k
     | false=>match ext.contains i with
      | true=>∃ v,(∀ st',Ext st st'→xOp P T M (inF frz o.dst) o.op A st' fun v' st''=>v'=v∧st''=st')∧A0w A o.dst v fun A'=>A9X P T M frz ops eff ext ord A' st k
      | false=>match A8u o.op with
       | true=>xOp P T M (inF frz o.dst) o.op A st fun v _=>A0w A o.dst v fun A'=>A9X P T M frz ops eff ext ord A' st k
       | false=>∃ v,(xOp P T M (inF frz o.dst) o.op A st fun v' st''=>v'=v∧st''=st)∧A0w A o.dst v fun A'=>A9X P T M frz ops eff ext ord A' st k)
    (A0w A o.dst (.tuple []) fun A'=>A9X P T M frz ops eff ext ord A' st k)
theorem A4W {P:Program} {T:F9} {M:H1} {frz:List Nat} {ops:List Oper} {eff ext:List Nat}:∀ (ord:List Nat) (A:List AV) (st:St) (k:KA),A9X P T M frz ops eff ext ord A st k→A8p P T M ops eff ext ord A st (A3I k)
 | [],A,st,k,h=>⟨A,st,A3R.refl A st,h⟩
 | i::ord,A,st,k,h=>by
  unfold A9X at h
  cases ho:ops[i]? with
  | none=>rw [ho] at h;exact h.elim
  | some o =>
   rw [ho] at h
   simp only at h
   split at h
   ·rename_i p t u y hp
    split at hp
    ·rename_i j
     split at hp
     ·rename_i o2 ho2
      split at hp
      ·rename_i hee
       simp only [Bool.and_eq_true] at hee
       simp only [ho2] at h
       obtain ⟨g1,g2,h1⟩:=A4x (P:=P) (M:=M) hp h
       unfold A8p
       rw [ho]
       have w1:Y1 ops o A=some true:=by unfold Y1;rw [g1]
       simp only [w1]
       refine ⟨fun _=>?_,fun e=>by cases e⟩
       rw [hee.1]
       refine O4 (fun v st' h2=>?_) h1
       unfold A8p
       rw [ho2]
       have w2:Y1 ops o2 (H7 A o.dst v)=some true:=by unfold Y1;rw [g2]
       simp only [w2]
       refine ⟨fun _=>?_,fun e=>by cases e⟩
       rw [hee.2]
       exact O4 (fun v' st'' h3=>h3) h2
      ·cases hp
     ·cases hp
    ·cases hp
   ·unfold A8p
    rw [ho]
    simp only
    obtain ⟨b,hb,h1,h2⟩:=A2T h
    rw [hb]
    simp only
    refine ⟨fun e=>?_,fun e=>?_⟩
    ·have h1:=h1 e
     split at h1
     ·rename_i hc
      rw [hc]
      exact O4 (fun v st' hk=>by rw [P9] at hk;exact A4W ord _ _ _ hk) (A1X h1)
     ·rename_i hc
      rw [hc]
      simp only
      split at h1
      ·rename_i hx
       rw [hx]
       obtain ⟨v,hv,hk⟩:=h1
       rw [P9] at hk
       exact ⟨v,fun st' hs=>A1X (hv st' hs),A4W ord _ _ _ hk⟩
      ·rename_i hx
       rw [hx]
       simp only
       split at h1
       ·rename_i hdet
        obtain ⟨v,hv,hk⟩:=B1a hdet (A1X h1)
        rw [P9] at hk
        exact ⟨v,hv,A4W ord _ _ _ hk⟩
       ·obtain ⟨v,hv,hk⟩:=h1
        rw [P9] at hk
        exact ⟨v,A1X hv,A4W ord _ _ _ hk⟩
    ·have:=h2 e
     rw [P9] at this
     exact A4W ord _ _ _ this
def B3F (P:Program) (T:F9) (M:H1) (frz:List Nat) (ops:List Oper) (i:Nat) (K:KA) (A:List AV) (st:St):Prop :=
 match ops[i]? with
 | none=>False
 | some o=>A4z ops o A (xOp P T M (inF frz o.dst) o.op A st fun v st'=>A0w A o.dst v fun A'=>K A' st') (A0w A o.dst (.tuple []) fun A'=>K A' st)
def C1H (P:Program) (T:F9) (M:H1) (frz:List Nat) (ops:List Oper) (i:Nat) (K:KA) (A:List AV) (st:St):Prop :=
 match ops[i]? with
 | none=>False
 | some o=>A4z ops o A
  (match A8u o.op with
   | true=>xOp P T M (inF frz o.dst) o.op A st fun v _=>A0w A o.dst v fun A'=>K A' st
   | false=>∃ v,(xOp P T M (inF frz o.dst) o.op A st fun v' st''=>v'=v∧st''=st)∧A0w A o.dst v fun A'=>K A' st)
  (A0w A o.dst (.tuple []) fun A'=>K A' st)
def A5k (P:Program) (T:F9) (M:H1) (frz:List Nat) (ops:List Oper):OT→List AV→St→KA→Prop
 | .done,A,st,k=>k A st
 | .gen i t,A,st,k=>B3F P T M frz ops i (fun A' st'=>A5k P T M frz ops t A' st' k) A st
 | .qui i t,A,st,k=>C1H P T M frz ops i (fun A' st'=>A5k P T M frz ops t A' st' k) A st
 | .two i j t u,A,st,k=>B3F P T M frz ops i (fun A' st'=>A5k P T M frz ops t A' st' k) A st∧B3F P T M frz ops j (fun A' st'=>A5k P T M frz ops u A' st' k) A st
theorem B1X {P:Program} {T:F9} {M:H1} {frz:List Nat} {ops:List Oper} {i:Nat} {K K':KA} {A:List AV} {st:St} (hK:∀ A st,K A st→K' A st) (h:B3F P T M frz ops i K A st):B3V P T M ops i K' A st:=by
 unfold B3F at h
 unfold B3V
 cases ho:ops[i]? with
 | none=>rw [ho] at h;exact h.elim
 | some o =>
  rw [ho] at h
  simp only at h ⊢
  obtain ⟨b,hb,h1,h2⟩:=A2T h
  rw [hb]
  refine ⟨fun e=>?_,fun e=>?_⟩
  ·exact O4 (fun v st' hk=>by rw [P9] at hk;exact hK _ _ hk) (A1X (h1 e))
  ·have:=h2 e
   rw [P9] at this;exact hK _ _ this
theorem C1I {P:Program} {T:F9} {M:H1} {frz:List Nat} {ops:List Oper} {i:Nat} {K K':KA} {A:List AV} {st:St} (hK:∀ A st,K A st→K' A st) (h:C1H P T M frz ops i K A st):C0r P T M ops i K' A st:=by
 unfold C1H at h
 unfold C0r
 cases ho:ops[i]? with
 | none=>rw [ho] at h;exact h.elim
 | some o =>
  rw [ho] at h
  simp only at h ⊢
  obtain ⟨b,hb,h1,h2⟩:=A2T h
  rw [hb]
  refine ⟨fun e=>?_,fun e=>?_⟩
  ·have h1:=h1 e
   split at h1
   ·rename_i hdet
    obtain ⟨v,hv,hk⟩:=B1a hdet (A1X h1)
    rw [P9] at hk
    exact ⟨v,hv,hK _ _ hk⟩
   ·obtain ⟨v,hv,hk⟩:=h1
    rw [P9] at hk
    exact ⟨v,A1X hv,hK _ _ hk⟩
  ·have:=h2 e
   rw [P9] at this;exact hK _ _ this
theorem A4y {P:Program} {T:F9} {M:H1} {frz:List Nat} {ops:List Oper}:∀ (t:OT) (A:List AV) (st:St) (k:KA),A5k P T M frz ops t A st k→A5Y P T M ops t A st (A3I k)
 | .done,A,st,k,h=>⟨A,st,A3R.refl A st,h⟩
 | .gen i t,A,st,k,h=>B1X (fun A st h=>A4y t A st k h) h
 | .qui i t,A,st,k,h=>C1I (fun A st h=>A4y t A st k h) h
 | .two i j t u,A,st,k,h=>⟨B1X (fun A st h=>A4y t A st k h) h.1,B1X (fun A st h=>A4y u A st k h) h.2⟩
def xDr (P:Program) (T:F9) (M:H1) (frz:List Nat) (ops:List Oper) (A:List AV) (st:St) (k:KA):Prop :=
 ∃ eff ext ord:List Nat,match ord with
  | []=>∃ t:OT,(Region.noSelect ops.toArray&&okT ops.toArray eff t ops.length (Array.replicate ops.length false))=true∧A5k P T M frz ops t A st k
  | _::_=>(Region.noSelect ops.toArray&&A8K ops.toArray eff ext ord (Array.replicate ops.length false)&&(ord.length==ops.length))=true∧A9X P T M frz ops eff ext ord A st k
theorem B9Q {P:Program} {T:F9} {M:H1} {frz:List Nat} {ops:List Oper} {A:List AV} {st:St} {k:KA} (h:xDr P T M frz ops A st k):Dr P T M ops A st (A3I k):=by
 obtain ⟨eff,ext,ord,h⟩:=h
 refine ⟨eff,ext,ord,?_⟩
 split at h
 ·obtain ⟨t,h1,h2⟩:=h
  exact ⟨t,h1,A4y t _ _ _ h2⟩
 ·exact ⟨h.1,A4W _ _ _ _ h.2⟩
def A9c:Nat→(List AV→Prop)→Prop
 | 0,k=>k []
 | n+1,k=>A9c n fun A=>k (.junk::A)
theorem A9d:∀ (n:Nat) (k:List AV→Prop),A9c n k=k (List.replicate n .junk)
 | 0,k=>rfl
 | n+1,k=>by rw [A9c,A9d n];rfl
def A6x:List Nat→List AV→List AV→(List AV→Prop)→Prop
 | i::is,v::vs,A,k=>B1H A i v fun A'=>A6x is vs A' k
 | _,_,A,k=>k A
theorem A9k:∀ (is:List Nat) (vs A:List AV) (k:List AV→Prop),A6x is vs A k=k ((is.zip vs).foldl (fun A p=>A.set p.1 p.2) A)
 | [],vs,A,k=>by simp [A6x]
 | i::is,[],A,k=>by simp [A6x]
 | i::is,v::vs,A,k=>by simp only [A6x,A6w,A9k is vs,List.zip_cons_cons,List.foldl_cons]
def A2e (A:List AV):List Nat→(List AV→Prop)→Prop
 | [],k=>k []
 | i::is,k=>A6S A i fun v=>A2e A is fun vs=>k (v::vs)
theorem A0W (A:List AV):∀ (is:List Nat) (k:List AV→Prop),A2e A is k=k (is.map fun i=>A.getD i AV.junk)
 | [],k=>rfl
 | i::is,k=>by simp only [A2e,A2d,A0W A is,List.map_cons]
def B9R (T:F9) (A:List AV) (st:St) (r:ResultVar) (k:AV→Prop):Prop :=
 match r with
 | .tmp t=>A6S A t k
 | .cell t ty=>A6S A t fun p=>B3G T ty p st (fun v _=>k v)
def B3H (T:F9) (A:List AV) (st:St):List ResultVar→(List AV→Prop)→Prop
 | [],k=>k []
 | r::rs,k=>B9R T A st r fun v=>B3H T A st rs fun vs=>k (v::vs)
theorem A9D {T:F9} {A:List AV} {st:St}:∀ (rs:List ResultVar) (k:List AV→Prop),B3H T A st rs k→A7j T A st rs k
 | [],k,h=>h
 | r::rs,k,h=>by
  simp only [B3H] at h
  simp only [A7j]
  cases r with
  | tmp t=>simp only [B9R,B2g,A2d] at h ⊢;exact A9D rs _ h
  | cell t ty=>simp only [B9R,B2g,A2d] at h ⊢;exact A3b (fun v hv=>A9D rs _ hv) (A9A h)
def C3m (T:F9) (rs:List ResultVar) (post:KK):Exit→KA:=fun e A st=>match e with
 | .normal=>B3H T A st rs fun vs=>post (A7H vs) st
 | .ret=>B3H T A st rs fun vs=>post (A7H vs) st
 | _=>False
def C1C:Nat→(List AV→Prop)→Prop
 | 0,k=>k []
 | n+1,k=>C1C n fun A=>k (.tuple []::A)
theorem B5O:∀ (n:Nat) (k:List AV→Prop),C1C n k=k (List.replicate n (.tuple []))
 | 0,k=>rfl
 | n+1,k=>by rw [C1C,B5O n];rfl
def A5D:List AV→Nat→(List AV→Prop)→Prop
 | [],n,k=>C1C n k
 | v::vs,n,k=>A5D vs (n - 1) fun A=>k (v::A)
theorem B0F:∀ (args:List AV) (n:Nat) (k:List AV→Prop),A5D args n k=k (start args n)
 | [],n,k=>by rw [A5D,B5O];simp [start]
 | v::vs,n,k=>by
  rw [A5D,B0F vs (n - 1)]
  unfold start
  simp only [List.length_cons,List.cons_append]
  rw [show n - 1 - vs.length=n - (vs.length+1) from by omega]
noncomputable def B9U (P:Program) (T:F9) (M:H1) (frz:List Nat) (ops:List Oper) (l:List Oper):List AV→St→KA→Prop :=
 List.rec (motive:=fun _=>List AV→St→KA→Prop) (fun A st k=>k A st)
  (fun o rest ih A st k=>match (match rest with | [o2]=>A4e frz o o2 | _=>none) with
   | some (p,t,u,y)=>(match rest with | [o2]=>A9B T p t u y o2.dst A st k | _=>False)
   | none=>match (match rest with | [om,o2]=>A6E frz o om o2 | _=>none) with
   | some (m,x,p,t,u,y)=>(match rest with | [_,o2]=>A7Y T m x p t u y o2.dst A st k | _=>False)
   | none=>A4z ops o A
    (xOp P T M (inF frz o.dst) o.op A st fun v st'=>A0w A o.dst v fun A'=>ih A' st' k)
    (A0w A o.dst (.tuple []) fun A'=>ih A' st k)) l
theorem B1Z {P:Program} {T:F9} {M:H1} {frz:List Nat} {ops:List Oper}:∀ l,B9U P T M frz ops l=B7v P T M frz ops l
 | []=>rfl
 | o::rest=>by
  funext A st k
  conv=>rhs;unfold B7v
  rw [←B1Z rest]
  rfl
noncomputable def C6v (P:Program) (T:F9) (M:H1) (frz:List Nat) (ops:List Oper) (eff ext:List Nat) (ord:List Nat):List AV→St→KA→Prop :=
 List.rec (motive:=fun _=>List AV→St→KA→Prop) (fun A st k=>k A st)
  (fun i ord ih A st k=>match ops[i]? with
   | none=>False
   | some o=>match (match ord with | [j]=>(match ops[j]? with | some o2=>(match eff.contains i&&eff.contains j with | true=>A4e frz o o2 | false=>none) | none=>none) | _=>none) with
    | some (p,t,u,y)=>(match ord with | [j]=>(match ops[j]? with | some o2=>A9B T p t u y o2.dst A st k | none=>False) | _=>False)
    | none=>A4z ops o A
     (match eff.contains i with
      | true=>xOp P T M (inF frz o.dst) o.op A st fun v st'=>A0w A o.dst v fun A'=>ih A' st' k
      | false=>match ext.contains i with
       | true=>∃ v,(∀ st',Ext st st'→xOp P T M (inF frz o.dst) o.op A st' fun v' st''=>v'=v∧st''=st')∧A0w A o.dst v fun A'=>ih A' st k
       | false=>match A8u o.op with
        | true=>xOp P T M (inF frz o.dst) o.op A st fun v _=>A0w A o.dst v fun A'=>ih A' st k
        | false=>∃ v,(xOp P T M (inF frz o.dst) o.op A st fun v' st''=>v'=v∧st''=st)∧A0w A o.dst v fun A'=>ih A' st k)
     (A0w A o.dst (.tuple []) fun A'=>ih A' st k)) ord
theorem B5T {P:Program} {T:F9} {M:H1} {frz:List Nat} {ops:List Oper} {eff ext:List Nat}:∀ l,C6v P T M frz ops eff ext l=A9X P T M frz ops eff ext l
 | []=>rfl
 | i::ord=>by
  funext A st k
  conv=>rhs;unfold A9X
  rw [←B5T ord]
  rfl
noncomputable def C1Z (P:Program) (T:F9) (M:H1) (frz:List Nat) (ops:List Oper) (t:OT):List AV→St→KA→Prop :=
 OT.rec (motive:=fun _=>List AV→St→KA→Prop) (fun A st k=>k A st)
  (fun i _ ih A st k=>B3F P T M frz ops i (fun A' st'=>ih A' st' k) A st)
  (fun i _ ih A st k=>C1H P T M frz ops i (fun A' st'=>ih A' st' k) A st)
  (fun i j _ _ iht ihu A st k=>B3F P T M frz ops i (fun A' st'=>iht A' st' k) A st∧B3F P T M frz ops j (fun A' st'=>ihu A' st' k) A st) t
theorem A4B {P:Program} {T:F9} {M:H1} {frz:List Nat} {ops:List Oper}:∀ t,C1Z P T M frz ops t=A5k P T M frz ops t
 | .done=>rfl
 | .gen i t=>by
  funext A st k
  conv=>rhs;unfold A5k
  rw [←A4B t];rfl
 | .qui i t=>by
  funext A st k
  conv=>rhs;unfold A5k
  rw [←A4B t];rfl
 | .two i j t u=>by
  funext A st k
  conv=>rhs;unfold A5k
  rw [←A4B t,←A4B u];rfl
noncomputable def yDr (P:Program) (T:F9) (M:H1) (frz:List Nat) (ops:List Oper) (A:List AV) (st:St) (k:KA):Prop :=
 ∃ eff ext ord:List Nat,match ord with
  | []=>∃ t:OT,(Region.noSelect ops.toArray&&okT ops.toArray eff t ops.length (Array.replicate ops.length false))=true∧C1Z P T M frz ops t A st k
  | _::_=>(Region.noSelect ops.toArray&&A8K ops.toArray eff ext ord (Array.replicate ops.length false)&&(ord.length==ops.length))=true∧C6v P T M frz ops eff ext ord A st k
theorem B9T {P:Program} {T:F9} {M:H1} {frz:List Nat} {ops:List Oper} {A:List AV} {st:St} {k:KA}:yDr P T M frz ops A st k=xDr P T M frz ops A st k:=by
 unfold yDr xDr
 simp only [B5T,A4B]
theorem A0 (st:St) (b:Nat) (x:Q3):upd st b x b=some x:=by simp [upd]
theorem B1 {st:St} {b c:Nat} {x:Q3} (h:c≠b):upd st b x c=st c:=by simp [upd,h]
theorem B3C {st:St} {b c:Nat} {x:Q3} (h:upd st b x c=none):c≠b∧st c=none:=by
 unfold upd at h
 split at h
 ·cases h
 ·rename_i e;exact ⟨e,h⟩
theorem A4V (st:St) (b:Nat) (x y:Q3):upd (upd st b x) b y=upd st b y:=funext fun c=>by unfold upd;split<;>rfl
theorem A2b {st:St} {b:Nat} (h:st b=none) (x:Q3):del (upd st b x) b=st:=funext fun c=>by
 unfold del upd
 split
 ·rename_i e;rw [e,h]
 ·rfl
theorem call {P:Program} {f:FuncId} {args:List AV} {st:St} {post k:KK} (h:S P f args st post) (hk:∀ v st',post v st'→k v st'):A1c P f args st k:=by
 refine ⟨?_⟩;unfold A1E;exact ⟨args,st,B3.refl _ _,h.mono hk⟩
theorem B0 {P:Program} {f:FuncId} {args:List AV} {st:St} {v:AV} {k:KK} (h:S P f args st fun v' st'=>v'=v∧st'=st) (hk:k v st):A1c P f args st k :=
 call h fun v' st' ⟨e1,e2⟩=>by rw [e1,e2];exact hk
theorem H8 {P:Program} {f:FuncId} {args args':List AV} {st st':St} {k:KK} (hs:B3 args st args' st') (h:A1c P f args' st' k):A1c P f args st k:=by
 refine ⟨?_⟩
 have h:=h.out
 unfold A1E at *
 obtain ⟨a,s,h1,h2⟩:=h
 exact ⟨a,s,hs.trans h1,h2⟩
end Go.Ab
