/- Part 4 of the proof: contracts -/
import Derived.Test.YtaapofnkmpiknaaGreatPt3
import Derived.Laws.StructEq
import Derived.Laws.Cover3
import Derived.Laws.BytesString
set_option linter.unusedVariables false
set_option linter.unusedSimpArgs false
namespace Go.Ab
open Go
def C6w (op:BinOp) (k:IntKind) (x y:Int):Option AV :=
 match op with
 | .add=>some (.int k (k.wrap (x+y)))
 | .sub=>some (.int k (k.wrap (x - y)))
 | .mul=>some (.int k (k.wrap (x * y)))
 | .quo=>if y=0 then none else some (.int k (k.wrap (x.tdiv y)))
 | .rem=>if y=0 then none else some (.int k (x.tmod y))
 | .and=>some (.int k (k.wrap ((BitVec.ofInt k.bits x &&& BitVec.ofInt k.bits y).toNat:Int)))
 | .or=>some (.int k (k.wrap ((BitVec.ofInt k.bits x ||| BitVec.ofInt k.bits y).toNat:Int)))
 | .xor=>some (.int k (k.wrap ((BitVec.ofInt k.bits x ^^^ BitVec.ofInt k.bits y).toNat:Int)))
 | .andNot=>some (.int k (k.wrap ((BitVec.ofInt k.bits x &&& ~~~ BitVec.ofInt k.bits y).toNat:Int)))
 | .eql=>some (.bool (x==y))
 | .neq=>some (.bool (x != y))
 | .lss=>some (.bool (x<y))
 | .leq=>some (.bool (x≤y))
 | .gtr=>some (.bool (x>y))
 | .geq=>some (.bool (x≥y))
 | _=>none
def A9q (op:BinOp) (k:IntKind) (x y:Int):Option AV :=
 if y<0 then none else
 match op with
 | .shl=>some (.int k (k.wrap (x * 2 ^ (min y.toNat k.bits))))
 | .shr=>some (.int k (x.fdiv (2 ^ (min y.toNat k.bits))))
 | _=>none
def D0H (op:BinOp) (x y:ByteArray):Option AV :=
 match op with
 | .add=>if ((x.size+y.size:Nat):Int)>9223372036854775807 then none else some (.str (x++y))
 | .eql=>some (.bool (x.toList==y.toList))
 | .neq=>some (.bool (!(x.toList==y.toList)))
 | .lss=>some (.bool (Op.bytesLess x.toList y.toList))
 | .leq=>some (.bool (Op.bytesLess x.toList y.toList||x.toList==y.toList))
 | .gtr=>some (.bool (!(Op.bytesLess x.toList y.toList||x.toList==y.toList)))
 | .geq=>some (.bool (!Op.bytesLess x.toList y.toList))
 | _=>none
def B1s (d:TypeDesc) (x y:AV):Option Bool :=
 match d,x,y with
 | .bool,.bool a,.bool b=>some (a==b)
 | .pointer _,.nilp,.nilp=>some true
 | .pointer _,.nilp,.optr ..=>some false
 | .pointer _,.optr ..,.nilp=>some false
 | .pointer _,.nilp,.fptr ..=>some false
 | .pointer _,.fptr ..,.nilp=>some false
 | .func ..,.nilf,.nilf=>some true
 | .func ..,.nilf,.fn ..=>some false
 | .func ..,.fn ..,.nilf=>some false
 | .interface _,.nili,.iface ..=>some false
 | .interface _,.iface ..,.nili=>some false
 | _,_,_=>none
def C3z (d:TypeDesc) (x y:AV):Option Bool :=
 match d,x,y with
 | .bool,.bool a,.bool b=>some (a==b)
 | .int _,.int k a,.int k' b=>if k=k' then some (a==b) else none
 | .string,.str a,.str b=>some (a.toList==b.toList)
 | _,_,_=>none
def B1t (T:H5):List Field→List AV→List AV→Option Bool
 | [],_,_=>some true
 | f::fs,xs,ys=>match T f.type with
  | none=>none
  | some q=>match q.agg with
   | true=>none
   | false=>match xs[f.offset]?,ys[f.offset]? with
    | some x,some y=>match C3z q.desc x y,B1t T fs xs ys with
     | some b,some c=>some (b&&c)
     | _,_=>none
    | _,_=>none
def B4M (T:H5) (r:C0) (x y:AV):Option Bool :=
 match r.desc,x,y with
 | .struct fs,.agg xs,.agg ys=>match r.plain with
  | true=>B1t T fs.toList xs ys
  | false=>none
 | d,x,y=>B1s d x y
def B4K (T:H5) (op:BinOp) (t:TypeId) (x y:AV):Option AV :=
 match x,y with
 | .int k a,.int k' b=>match op with
  | .shl=>A9q .shl k a b
  | .shr=>A9q .shr k a b
  | op=>if k=k' then C6w op k a b else none
 | .str a,.str b=>D0H op a b
 | x,y=>match T t with
  | none=>none
  | some r=>match op with
   | .eql=>(B4M T r x y).map .bool
   | .neq=>(B4M T r x y).map fun b=>.bool (!b)
   | _=>none
theorem B7G {P:Program} {T:H5} (hT:TOk P T) {t:TypeId} {r:C0} (hr:T t=some r) {w:World} {rd:Addr→Option Value} {sz:Nat→Nat} {x y:AV} {cx cy:Value} {b:Bool} (hx:Rep rd sz x cx) (hy:Rep rd sz y cy)
  (h:B1s r.desc x y=some b):(Op.equal t cx cy).run P w=.ok b w:=by
 have hund:=TOk.und hT hr w
 unfold Op.equal
 rw [show Op.maxDepth=9999+1 from rfl]
 generalize 9999=dd
 generalize r.desc=d at h hund
 unfold B1s at h
 split at h
 all_goals first | (cases h;done) | (cases hx;cases hy;cases h;simp [Op.equalIn,hund])
theorem C5s {P:Program} {t:TypeId} {d:TypeDesc} {dd:Nat} {w:World} {rd:Addr→Option Value} {sz:Nat→Nat} {x y:AV} {cx cy:Value} {b:Bool} (hund:P.underlying t=some d) (hx:Rep rd sz x cx) (hy:Rep rd sz y cy)
  (h:C3z d x y=some b):(Op.equalIn (dd+1) t cx cy).run P w=.ok b w:=by
 unfold C3z at h
 split at h
 ·cases hx;cases hy;cases h;exact run_equalIn_bool' w dd t _ _ hund
 ·split at h
  ·rename_i hk
   subst hk
   cases hx;cases hy;cases h;exact run_equalIn_int w dd t _ _ _ _ hund
  ·cases h
 ·cases hx;cases hy;cases h;exact run_equalIn_string w dd t _ _ hund
 ·cases h
theorem B7F {P:Program} {T:H5} (hT:TOk P T) {t:TypeId} {r:C0} (hr:T t=some r) (ha:r.agg=false) {w:World} {vs:Array Value} {o:Nat} (ho:o<vs.size):(part t vs o).run P w=.ok vs[o] w:=by
 have hag:=TOk.isAgg hT hr w
 simp only [part,Sem.run_bind,hag,ha,Result.andThen_ok,D8Y,D9L,D7x ho,Sem.run_pure]
theorem B4t {P:Program} {T:H5} (hT:TOk P T) {dd:Nat} {w:World} {rd:Addr→Option Value} {sz:Nat→Nat} {xs ys:List AV} {vs us:Array Value} (hx:Rep rd sz (.agg xs) (.agg vs)) (hy:Rep rd sz (.agg ys) (.agg us)) :
  ∀ (fs : List Field) (b : Bool), (∀ f ∈ fs, f.name ≠ "_") → B1t T fs xs ys = some b → (Op.eqFields (dd + 1) vs us fs).run P w = .ok b w
 | [],b,_,h=>by cases h;rfl
 | f::fs,b,hn,h=>by
  unfold B1t at h
  split at h
  ·cases h
  rename_i q hq
  split at h
  ·cases h
  rename_i hagg
  split at h
  case h_2=>cases h
  rename_i x y hxo hyo
  split at h
  case h_2=>cases h
  rename_i b1 c1 hb hc
  cases h
  have ih:=B4t (dd:=dd) (w:=w) hT hx hy fs c1 (fun g hg=>hn g (D7E _ hg)) hc
  cases hx with
  | agg xs vs hl hg =>
   cases hy with
   | agg ys us hl' hg' =>
    have h1:f.offset<vs.size:=by rw [←hl];exact (D7w.1 hxo).1
    have h2:f.offset<us.size:=by rw [←hl'];exact (D7w.1 hyo).1
    have hp:=C5s (P:=P) (dd:=dd) (w:=w) (hT f.type q hq).1 (hg _ _ _ hxo (D7x h1)) (hg' _ _ _ hyo (D7x h2)) hb
    unfold Op.eqFields
    rw [if_pos (hn f (D7G ..))]
    simp only [Sem.run_bind,B7F hT hq hagg h1,B7F hT hq hagg h2,Result.andThen_ok,hp]
    cases b1 with
    | false=>simp
    | true=>simpa using ih
theorem B4u {P:Program} {T:H5} (hT:TOk P T) (hE:C3o P T) {t:TypeId} {r:C0} (hr:T t=some r) {w:World} {rd:Addr→Option Value} {sz:Nat→Nat} {fs:Array Field} {xs ys:List AV} {vs us:Array Value} {b:Bool} (hd:r.desc=.struct fs) (hp:r.plain=true)
  (hx:Rep rd sz (.agg xs) (.agg vs)) (hy:Rep rd sz (.agg ys) (.agg us)) (h:B1t T fs.toList xs ys=some b):(Op.equalIn 10000 t (.agg vs) (.agg us)).run P w=.ok b w∧P.eqGuardType P.depth t=false:=by
 obtain ⟨e1,e2,e3⟩:=hE t r hr hp
 have hu:P.underlying t=some (.struct fs):=by rw [(hT t r hr).1,hd]
 have hf:P.fieldsOf t=fs:=by unfold Program.fieldsOf;rw [hu]
 refine ⟨?_,e2⟩
 rw [show (10000:Nat)=9999+1 from rfl,run_equalIn_struct w 9999 t vs us (by rw [hf];exact hu) e1,hf,show (9999:Nat)=9998+1 from rfl]
 exact B4t hT hx hy fs.toList b (e3 fs hd) h
theorem C5C {P:Program} {T:H5} (hT:TOk P T) (hE:C3o P T) {o:Oper} {A:List AV} {a:Act} {st:St} {w:World} {op:BinOp} {t u:TypeId} {x y:Operand} {k:KK} {next:Act→World→Prop} {Q:Exit→Act→World→Prop} {v:AV}
  (ho:o.op=.binOp op t x y u) (hA:Q0 w st A a) (hS:H9 st w) (h:B4K T op t (ev A x) (ev A y)=some v) (hk:k v st) (hn:Nxt st w k a o.dst next):o.wp P a w next Q:=by
 have hx:=I2 hA x
 have hy:=I2 hA y
 suffices hmain:∃ c,K8 w st v c∧(eqGuard op t x y (a.eval x) (a.eval y)).run P w=.ok () w∧(binOp op t (a.eval x) (a.eval y)).run P w=.ok c w by
  obtain ⟨c,h1,h2,h3⟩:=hmain
  refine I8 (c:=c) ?_ hS h1 hk hn
  simp only [execOp,ho,Sem.run_bind,h2,h3,Result.andThen_ok,Sem.run_pure]
 generalize a.eval x=cx at hx
 generalize a.eval y=cy at hy
 generalize ev A x=ax at h hx
 generalize ev A y=ay at h hy
 unfold B4K at h
 split at h
 ·rename_i kk i k' j
  cases hx
  cases hy
  have hg:∀ w:World,(eqGuard op t x y (.int kk i) (.int k' j)).run P w=.ok () w:=fun w=>by
   cases op<;>simp [eqGuard]
  split at h
  ·unfold A9q at h
   split at h
   ·cases h
   ·rename_i hlt
    cases h
    exact ⟨_,.int _ _,hg w,by simp [binOp,Op.shift,hlt]⟩
  ·unfold A9q at h
   split at h
   ·cases h
   ·rename_i hlt
    cases h
    exact ⟨_,.int _ _,hg w,by simp [binOp,Op.shift,hlt]⟩
  ·rename_i hs1 hs2
   split at h
   case isFalse=>cases h
   rename_i hkk
   subst hkk
   cases op<;>simp only [C6w] at h<;>first
    | (cases h;done)
    | (exact absurd rfl hs1)
    | (exact absurd rfl hs2)
    | (cases h;exact ⟨_,.int _ _,hg w,by simp [binOp,Op.intArith,Op.intBits]⟩)
    | (cases h;exact ⟨_,.bool _,hg w,by simp [binOp,Op.intCmp]⟩)
    | (split at h
       ·cases h
       ·rename_i hz;cases h;exact ⟨_,.int _ _,hg w,by simp [binOp,Op.intDiv,hz]⟩)
 ·rename_i s1 s2
  cases hx
  cases hy
  have hg:∀ w:World,(eqGuard op t x y (.string s1) (.string s2)).run P w=.ok () w:=fun w=>by
   cases op<;>simp [eqGuard]
  cases op<;>simp only [D0H] at h<;>first
   | (cases h;done)
   | (cases h;exact ⟨_,.bool _,hg w,by simp [binOp,Op.stringOp]⟩)
   | (split at h
      ·cases h
      ·rename_i hz
       cases h
       refine ⟨_,.str _,hg w,?_⟩
       have hm:IntKind.i64.max=9223372036854775807:=by rfl
       simp only [binOp,Op.stringOp]
       rw [if_neg (by rw [hm];exact hz)]
       rfl)
 ·split at h
  ·cases h
  ·rename_i hni hns r hr
   split at h
   ·simp only [Option.map_eq_some_iff] at h
    obtain ⟨b,hb,rfl⟩:=h
    unfold B4M at hb
    split at hb
    ·rename_i fs xs ys hd _
     split at hb
     case h_2=>cases hb
     rename_i hp
     cases hx with
     | agg xs vs hl hg =>
      cases hy with
      | agg ys us hl' hg' =>
       obtain ⟨h1,h2⟩:=B4u (w:=w) hT hE hr hd hp (.agg xs vs hl hg) (.agg ys us hl' hg') hb
       exact ⟨.bool b,.bool b,run_eqGuard_agg w _ t x y vs us h2,by rw [run_eql_struct w t vs us,h1];rfl⟩
    ·have hrun:=B7G hT hr (w:=w) hx hy hb
     refine ⟨.bool b,.bool b,?_,?_⟩
     ·unfold B1s at hb
      split at hb<;>first | (cases hb;done) | (cases hx;cases hy;simp [eqGuard])
     ·unfold B1s at hb
      split at hb<;>first | (cases hb;done) | (cases hx;cases hy;simp [binOp,hrun])
   ·simp only [Option.map_eq_some_iff] at h
    obtain ⟨b,hb,rfl⟩:=h
    unfold B4M at hb
    split at hb
    ·rename_i fs xs ys hd _
     split at hb
     case h_2=>cases hb
     rename_i hp
     cases hx with
     | agg xs vs hl hg =>
      cases hy with
      | agg ys us hl' hg' =>
       obtain ⟨h1,h2⟩:=B4u (w:=w) hT hE hr hd hp (.agg xs vs hl hg) (.agg ys us hl' hg') hb
       exact ⟨.bool (!b),.bool (!b),run_eqGuard_agg w _ t x y vs us h2,by rw [run_neq_struct w t vs us,h1];rfl⟩
    ·have hrun:=B7G hT hr (w:=w) hx hy hb
     refine ⟨.bool (!b),.bool (!b),?_,?_⟩
     ·unfold B1s at hb
      split at hb<;>first | (cases hb;done) | (cases hx;cases hy;simp [eqGuard])
     ·unfold B1s at hb
      split at hb<;>first | (cases hb;done) | (cases hx;cases hy;simp [binOp,hrun])
   ·cases h
def B3N (v:AV):Option AV :=
 match v with
 | .own ..=>some (.bool false)
 | .emp=>some .ubool
 | .arr _ n _=>match n with
  | 0=>some .ubool
  | _+1=>some (.bool false)
 | _=>none
def C6x (T:H5) (op:BinOp) (t:TypeId) (y:Operand) (v:AV):Option AV :=
 match y with
 | .const c=>match c with
  | .slice a l m=>match a,l,m,op with
   | none,0,0,.eql=>(match T t with | some r=>(match r.desc with | .slice _=>B3N v | _=>none) | none=>none)
   | none,0,0,.neq=>(match T t with | some r=>(match r.desc with | .slice _=>(match B3N v with | some (.bool b)=>some (.bool (!b)) | z=>z) | _=>none) | none=>none)
   | _,_,_,_=>none
  | _=>none
 | _=>none
def B6h (T:H5) (op:BinOp) (t:TypeId) (y:Operand) (vx vy:AV):Option AV :=
 match C6x T op t y vx with
 | some z=>some z
 | none=>B4K T op t vx vy
theorem B3O {rd:Addr→Option Value} {sz:Nat→Nat} {v z:AV} {c:Value} (h:B3N v=some z) (hr:Rep rd sz v c):∃ a l m,c=.slice a l m∧Rep rd sz z (.bool a.isNone)∧(∀ b,z=.bool b→b=false)∧(z=.ubool∨∃ b,z=.bool b):=by
 unfold B3N at h
 split at h
 ·cases h
  cases hr
  exact ⟨_,_,_,rfl,.bool _,(fun b hb=>by cases hb;rfl),.inr ⟨_,rfl⟩⟩
 ·cases h
  cases hr
  exact ⟨_,_,_,rfl,.ubool _,(fun b hb=>by cases hb),.inl rfl⟩
 ·split at h
  ·cases h
   cases hr
   exact ⟨_,_,_,rfl,.ubool _,(fun b hb=>by cases hb),.inl rfl⟩
  ·cases h
   cases hr with
   | arr e n f A c g hc hA hl ho hr hg =>
    obtain ⟨a,rfl⟩:=hA (by omega)
    exact ⟨_,_,_,rfl,.bool _,(fun b hb=>by cases hb;rfl),.inr ⟨_,rfl⟩⟩
 ·cases h
theorem D0p {P:Program} {T:H5} (hT:TOk P T) {o:Oper} {A:List AV} {a:Act} {st:St} {w:World} {op:BinOp} {t u:TypeId} {x y:Operand} {k:KK} {next:Act→World→Prop} {Q:Exit→Act→World→Prop} {z:AV}
  (ho:o.op=.binOp op t x y u) (hA:Q0 w st A a) (hS:H9 st w) (h:C6x T op t y (ev A x)=some z) (hk:k z st) (hn:Nxt st w k a o.dst next):o.wp P a w next Q:=by
 have hx:=I2 hA x
 unfold C6x at h
 split at h
 case h_2=>cases h
 rename_i c
 split at h
 case h_2=>cases h
 rename_i sa sl sm
 split at h
 ·split at h
  case h_2=>cases h
  rename_i r hr
  split at h
  case h_2=>cases h
  rename_i el hd
  obtain ⟨a',l,m,he,hz,_,_⟩:=B3O h hx
  have hu:P.underlying t=some (.slice el):=by rw [(hT t r hr).1,hd]
  have hrun:=run_equal_slice_nil (P:=P) w t el a' l m hu
  refine I8 (c:=.bool a'.isNone) ?_ hS hz hk hn
  have hy:a.eval (.const (.slice none 0 0))=.slice none 0 0:=rfl
  simp only [execOp,ho,Sem.run_bind,he,hy]
  simp [eqGuard,binOp,hrun]
 ·split at h
  case h_2=>cases h
  rename_i r hr
  split at h
  case h_2=>cases h
  rename_i el hd
  have hex:∃ z0,B3N (ev A x)=some z0:=by
   cases hz:B3N (ev A x) with
   | none=>rw [hz] at h;cases h
   | some z0=>exact ⟨z0,rfl⟩
  obtain ⟨z0,hz0⟩:=hex
  rw [hz0] at h
  obtain ⟨a',l,m,he,hz,_,hb⟩:=B3O hz0 hx
  have hu:P.underlying t=some (.slice el):=by rw [(hT t r hr).1,hd]
  have hrun:=run_equal_slice_nil (P:=P) w t el a' l m hu
  have hz':K8 w st z (.bool (!a'.isNone)):=by
   rcases hb with e | ⟨b,e⟩
   ·rw [e] at h;cases h;exact .ubool _
   ·rw [e] at h hz;cases h;cases hz;exact .bool _
  refine I8 (c:=.bool (!a'.isNone)) ?_ hS hz' hk hn
  have hy:a.eval (.const (.slice none 0 0))=.slice none 0 0:=rfl
  simp only [execOp,ho,Sem.run_bind,he,hy]
  simp [eqGuard,binOp,hrun]
 ·cases h
theorem C7O {P:Program} {T:H5} (hT:TOk P T) (hE:C3o P T) {o:Oper} {A:List AV} {a:Act} {st:St} {w:World} {op:BinOp} {t u:TypeId} {x y:Operand} {k:KK} {next:Act→World→Prop} {Q:Exit→Act→World→Prop} {v:AV}
  (ho:o.op=.binOp op t x y u) (hA:Q0 w st A a) (hS:H9 st w) (h:B6h T op t y (ev A x) (ev A y)=some v) (hk:k v st) (hn:Nxt st w k a o.dst next):o.wp P a w next Q:=by
 unfold B6h at h
 split at h
 ·rename_i z hz;cases h;exact D0p hT ho hA hS hz hk hn
 ·exact C5C hT hE ho hA hS h hk hn
def aUn (op:UnOp) (x:AV):Option AV :=
 match op,x with
 | .not,.bool b=>some (.bool (!b))
 | .neg,.int k n=>some (.int k (k.wrap (0 - n)))
 | _,_=>none
theorem C7T {P:Program} {o:Oper} {A:List AV} {a:Act} {st:St} {w:World} {op:UnOp} {t:TypeId} {x:Operand} {k:KK} {next:Act→World→Prop} {Q:Exit→Act→World→Prop} {v:AV}
  (ho:o.op=.unOp op t x) (hA:Q0 w st A a) (hS:H9 st w) (h:aUn op (ev A x)=some v) (hk:k v st) (hn:Nxt st w k a o.dst next):o.wp P a w next Q:=by
 have hx:=I2 hA x
 generalize hxv:a.eval x=cx at hx
 generalize ev A x=ax at h hx
 unfold aUn at h
 split at h
 ·cases hx;cases h
  exact I8 (by simp only [execOp,ho,hxv,Op.unary,Sem.run_bind,Sem.run_pure,Result.andThen_ok]) hS (.bool _) hk hn
 ·cases hx;cases h
  exact I8 (by simp only [execOp,ho,hxv,Op.unary,Op.intArith,Sem.run_bind,Sem.run_pure,Result.andThen_ok]) hS (.int _ _) hk hn
 ·cases h
theorem C0P {P:Program} {o:Oper} {A:List AV} {a:Act} {st:St} {w:World} {x:Operand} {k:KK} {next:Act→World→Prop} {Q:Exit→Act→World→Prop}
  (ho:o.op=.move x∨o.op=.assign x) (hA:Q0 w st A a) (hS:H9 st w) (hk:k (ev A x) st) (hn:Nxt st w k a o.dst next):o.wp P a w next Q:=by
 refine I8 (c:=a.eval x) ?_ hS (I2 hA x) hk hn
 rcases ho with ho | ho<;>simp only [execOp,ho,Sem.run_pure]
theorem C7R {P:Program} {o:Oper} {A:List AV} {a:Act} {st:St} {w:World} {c x y:Operand} {b:Bool} {k:KK} {next:Act→World→Prop} {Q:Exit→Act→World→Prop}
  (ho:o.op=.pick c x y) (hA:Q0 w st A a) (hS:H9 st w) (hc:ev A c=.bool b) (h1:b=true→k (ev A x) st) (h2:b=false→k (ev A y) st) (hn:Nxt st w k a o.dst next):o.wp P a w next Q:=by
 have hcr:=I2 hA c
 rw [hc] at hcr
 generalize hcv:a.eval c=cv at hcr
 cases hcr
 cases b with
 | true=>exact I8 (c:=a.eval x) (by simp only [execOp,ho,hcv,asBool,Sem.run_bind,Sem.run_pure,Result.andThen_ok,if_true]) hS (I2 hA x) (h1 rfl) hn
 | false=>exact I8 (c:=a.eval y) (by simp only [execOp,ho,hcv,asBool,Sem.run_bind,Sem.run_pure,Result.andThen_ok,D8Y,D9L]) hS (I2 hA y) (h2 rfl) hn
def A6V (v:AV):Bool :=
 match v with
 | .fptr ..=>true
 | .optr ..=>true
 | .fn (.func _) _ _=>true
 | .fn (.via ..) _ _=>true
 | .iface ..=>true
 | _=>false
theorem B7J {P:Program} {o:Oper} {A:List AV} {a:Act} {st:St} {w:World} {x:Operand} {k:KK} {next:Act→World→Prop} {Q:Exit→Act→World→Prop}
  (ho:o.op=.nilCheck x) (hA:Q0 w st A a) (hS:H9 st w) (h:A6V (ev A x)=true) (hk:k (ev A x) st) (hn:Nxt st w k a o.dst next):o.wp P a w next Q:=by
 refine I8 (c:=a.eval x) ?_ hS (I2 hA x) hk hn
 have hx:=I2 hA x
 simp only [execOp,ho]
 generalize a.eval x=cx at hx
 generalize ev A x=ax at h hx
 unfold A6V at h
 split at h
 ·cases hx;rfl
 ·cases hx;rfl
 ·cases hx;rfl
 ·cases hx;rfl
 ·cases hx;rfl
 ·cases h
def B4S (f:Nat→AV):Nat→Option (List Int)
 | 0=>some []
 | n+1=>match B4S f n with
  | none=>none
  | some l=>match f n with
   | .int .u8 x=>some (l++[x])
   | _=>none
theorem B0m {f:Nat→AV}:∀ {n:Nat} {l:List Int},B4S f n=some l→l.length=n∧∀ i,i<n→f i=.int .u8 (l.getD i 0)
 | 0,l,h=>by cases h;exact ⟨rfl,fun i hi=>by omega⟩
 | n+1,l,h=>by
  unfold B4S at h
  split at h
  ·cases h
  ·rename_i l' hl'
   obtain ⟨h1,h2⟩:=B0m hl'
   split at h
   ·rename_i x hx
    cases h
    refine ⟨by simp [h1],fun i hi=>?_⟩
    rcases D7Y.1 hi with h3 | h3
    ·rw [h2 i h3];congr 1
     rw [D7c,D7c,D7B (by omega)]
    ·subst h3;rw [hx];congr 1
     rw [←h1];simp [D7c]
   ·cases h
def B2W (l:List Int):ByteArray:=l.foldl (fun r n=>r.push (UInt8.ofNat n.toNat)) ByteArray.empty
def C0r (T:H5) (el:TypeId):Bool:=match T el with
 | none=>false
 | some z=>match z.desc with
  | .int .u8=>true
  | _=>false
def A8q (T:H5) (src dst:TypeId) (x:AV):Option AV :=
 match T src,T dst with
 | some r,some q=>match q.desc,x with
  | .int k,.int _ n=>some (.int k (k.wrap n))
  | .string,.str s=>match r.desc with | .slice _=>none | _=>some (.str s)
  | .string,.arr e n f=>match r.desc with
   | .slice el=>match C0r T el&&Nat.beq e 1 with
    | true=>match B4S f n with
     | some l=>some (.str (B2W l))
     | none=>none
    | false=>none
   | _=>none
  | _,_=>none
 | _,_=>none
theorem B9A {P:Program} {T:H5} (hT:TOk P T) {o:Oper} {A:List AV} {a:Act} {st:St} {w:World} {src dst:TypeId} {x:Operand} {k:KK} {next:Act→World→Prop} {Q:Exit→Act→World→Prop} {v:AV}
  (ho:o.op=.convert src dst x) (hA:Q0 w st A a) (hS:H9 st w) (h:A8q T src dst (ev A x)=some v) (hk:k v st) (hn:Nxt st w k a o.dst next):o.wp P a w next Q:=by
 unfold A8q at h
 split at h
 case h_2=>cases h
 rename_i r q hr hq
 have h1:=TOk.und hT hr w
 have h2:=TOk.und hT hq w
 have hx:=I2 hA x
 generalize hxv:a.eval x=cx at hx
 generalize ev A x=ax at h hx
 split at h
 ·rename_i hd
  rw [hd] at h2
  cases hx;cases h
  refine I8 ?_ hS (.int _ _) hk hn
  simp only [execOp,ho,hxv,convert,Sem.run_bind,h1,h2,Result.andThen_ok]
  cases r.desc<;>simp [Conv.intToInt]
 ·rename_i hd
  rw [hd] at h2
  split at h
  ·cases h
  ·rename_i hns
   cases hx;cases h
   refine I8 ?_ hS (.str _) hk hn
   simp only [execOp,ho,hxv,convert,Sem.run_bind,h1,h2,Result.andThen_ok]
   cases hrd:r.desc<;>simp<;>exact absurd hrd (hns _)
 ·rename_i e n f hd
  rw [hd] at h2
  split at h
  ·rename_i el hrd
   rw [hrd] at h1
   split at h
   ·rename_i hb
    rw [D7f,Nat.beq_eq] at hb
    obtain ⟨hb,rfl⟩:=hb
    split at h
    ·rename_i l hl
     cases h
     obtain ⟨hll,hlf⟩:=B0m hl
     have hel:∃ z,T el=some z∧z.desc=.int .u8:=by
      unfold C0r at hb
      split at hb
      ·cases hb
      ·rename_i z hz
       split at hb
       ·rename_i hzd;exact ⟨z,hz,hzd⟩
       ·cases hb
     obtain ⟨z,hz,hzd⟩:=hel
     have h3:=TOk.und hT hz w
     rw [hzd] at h3
     cases hx with
     | arr e n f A c g hc hA' hle ho' hr' hg =>
      refine I8 ?_ hS (.str _) hk hn
      have hconv:(convert src dst (.slice A n c)).run P w=(Conv.bytesToString (.slice A n c)).run P w:=by
       simp only [convert,Sem.run_bind,h1,h2,h3,Result.andThen_ok]
      have hbytes:(Conv.bytesToString (.slice A n c)).run P w=.ok (.string (B2W l)) w:=by
       cases A with
       | none =>
        have hn0:n=0:=by
         rcases D8w n with h0 | h0
         ·exact h0
         ·obtain ⟨a,ha⟩:=hA' h0;cases ha
        subst hn0
        have:l=[]:=D7O hll
        subst this
        simp [Conv.bytesToString,Sem.run_pure,B2W]
       | some a =>
        have hcell:∀ j,j<n→w.cell? (a.add j)=some (.int .u8 (l.getD j 0)):=fun j hj=>by
         have h4:=A4M (hr' a rfl j 0 hj (by omega))
         have h5:=hg j 0 (.int .u8 (l.getD j 0)) hj (by rw [hlf j hj];rfl)
         rw [Nat.mul_one,D9v] at h4
         rw [h4]
         generalize g j 0=u at h5
         cases h5;rfl
        have hload:=run_loadCells (P:=P) (w:=w) a n (fun j=>.int .u8 (l.getD j 0)) hcell
        refine run_bytesToString w a n c l ?_
        rw [hload]
        congr 1
        refine Array.ext (by simp [hll]) fun i h6 h7=>?_
        simp at h6 h7
        simp [D7c,show i<l.length by omega]
      simp only [execOp,ho,hxv,Sem.run_bind,hconv,hbytes,Result.andThen_ok,Sem.run_pure]
    ·cases h
   ·cases h
  ·cases h
 ·cases h
theorem A4c {w:World} {st:St} {A:List AV} {a:Act} (hA:Q0 w st A a) (xs:Array Operand):(xs.toList.map (ev A)).length=(xs.map a.eval).size ∧
  ∀ (j:Nat) (y:AV) (c:Value),(xs.toList.map (ev A))[j]?=some y→(xs.map a.eval)[j]?=some c→K8 w st y c:=by
 refine ⟨by simp,fun j y c hy hc=>?_⟩
 simp only [D8a,D7T,Array.getElem?_map] at hy hc
 cases hj:xs[j]? with
 | none=>rw [hj] at hy;cases hy
 | some x =>
  rw [hj] at hy hc
  cases hy;cases hc
  exact I2 hA x
theorem B7I {P:Program} {o:Oper} {A:List AV} {a:Act} {st:St} {w:World} {fn:Fn} {fs cs:Array Operand} {k:KK} {next:Act→World→Prop} {Q:Exit→Act→World→Prop}
  (ho:o.op=.makeFunc fn fs cs) (hA:Q0 w st A a) (hS:H9 st w) (hk:k (.fn fn (fs.toList.map (ev A)) (cs.toList.map (ev A))) st) (hn:Nxt st w k a o.dst next):o.wp P a w next Q:=by
 obtain ⟨h1,h2⟩:=A4c hA fs
 obtain ⟨h3,h4⟩:=A4c hA cs
 exact I8 (c:=.func fn (fs.map a.eval) (cs.map a.eval)) (by simp only [execOp,ho,Instr.makeFunc,Sem.run_bind,Sem.run_pure,Result.andThen_ok]) hS (.fn _ _ _ _ _ h1 h3 h2 h4) hk hn
def B4Z (T:H5) (t:TypeId):Bool:=match T t with | some r=>(match r.desc with | .interface _=>false | _=>true) | none=>false
theorem B0e {P:Program} {T:H5} (hT:TOk P T) {o:Oper} {A:List AV} {a:Act} {st:St} {w:World} {t:TypeId} {x:Operand} {k:KK} {next:Act→World→Prop} {Q:Exit→Act→World→Prop}
  (ho:o.op=.makeInterface t x) (hA:Q0 w st A a) (hS:H9 st w) (h:B4Z T t=true) (hk:k (.iface t (ev A x)) st) (hn:Nxt st w k a o.dst next):o.wp P a w next Q:=by
 unfold B4Z at h
 split at h
 case h_2=>cases h
 rename_i r hr
 have h1:=TOk.und hT hr w
 refine I8 (c:=.iface t (a.eval x)) ?_ hS (.iface t _ _ (I2 hA x)) hk hn
 simp only [execOp,ho,Instr.makeInterface,Sem.run_bind,h1,Result.andThen_ok]
 cases hd:r.desc<;>simp [hd] at h ⊢
def B0V (T:H5) (x:AV) (t:TypeId) (ok:Bool):Option AV :=
 match T t with
 | none=>none
 | some r=>match r.desc with
  | .interface _=>none
  | _=>match x with
   | .iface u v=>if u=t then some (if ok then .tuple [v,.bool true] else v) else none
   | _=>none
theorem B3G {P:Program} {T:H5} (hT:TOk P T) {o:Oper} {A:List AV} {a:Act} {st:St} {w:World} {t u:TypeId} {x:Operand} {ok:Bool} {k:KK} {next:Act→World→Prop} {Q:Exit→Act→World→Prop} {v:AV}
  (ho:o.op=.typeAssert x u t ok) (hA:Q0 w st A a) (hS:H9 st w) (h:B0V T (ev A x) t ok=some v) (hk:k v st) (hn:Nxt st w k a o.dst next):o.wp P a w next Q:=by
 unfold B0V at h
 split at h
 ·cases h
 rename_i r hr
 have h1:=TOk.und hT hr w
 have hx:=I2 hA x
 generalize hxv:a.eval x=cx at hx
 generalize ev A x=ax at h hx
 split at h
 ·cases h
 rename_i hni
 split at h
 case h_2=>cases h
 split at h
 case isFalse=>cases h
 rename_i hut
 subst hut
 cases hx with
 | iface t' v' c hc =>
  cases h
  refine I8 (c:=if ok then .tuple #[c,.bool true] else c) ?_ hS ?_ hk hn
  ·simp only [execOp,ho,hxv,Instr.typeAssert,Sem.run_bind,h1,Result.andThen_ok]
   cases hd:r.desc<;>first | (simp;done) | exact absurd hd (hni _)
  ·cases ok with
   | false=>exact hc
   | true =>
    refine .tuple _ _ rfl fun j y d hy hd=>?_
    match j with
    | 0=>simp at hy hd;subst hy;subst hd;exact hc
    | 1=>simp at hy hd;subst hy;subst hd;exact .bool true
    | j+2=>simp at hy
end Go.Ab
