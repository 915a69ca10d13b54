/- Part 10 of the proof: contracts of the functions that the law reaches -/
import Derived.Test.YtaapofnkmpiknaaGreatPw9
import Derived.Orders
set_option linter.unusedVariables false
set_option linter.unusedSimpArgs false
namespace Go.Ab
open Go
theorem B2p {A:List AV} {d:Option Tmp} {v:AV} {x:Operand} (h:∀ t,d=some t→x≠.tmp t):ev (F3 A d v) x=ev A x:=by
 cases d with
 | none=>rfl
 | some t =>
  cases x with
  | tmp u =>
   have hne:t≠u:=fun e=>h t rfl (e▸rfl)
   simp [ev,F3,D0H hne]
  | _=>rfl
theorem A8i {A B:List AV} {f:Operand} {args:List AV} (h:ev A f=ev B f):A1J A (.value f) args=A1J B (.value f) args:=by
 simp only [A1J,h]
theorem A1e {A B:List AV} {xs:Array Operand} (h:∀ x∈xs,ev A x=ev B x):xs.toList.map (ev A)=xs.toList.map (ev B) :=
 D1d fun x hx=>h x (by simpa using hx)
theorem B4C {P:Program} {T:C7} {M:E7} {o:Oper} {A B:List AV} (h:∀ x∈o.op.operands,ev A x=ev B x) (st:St) (k:KK):aOp P T M o A st k=aOp P T M o B st k:=by
 obtain ⟨dst,op,type,pos,after,guard⟩:=o
 have pairs:∀ ps:Array (Nat×Operand),(∀ x∈ps.map (·.2),ev A x=ev B x)→evP A ps=evP B ps:=fun ps hp =>
  D1d fun p hm=>by rw [hp p.2 (Array.mem_map.2 ⟨p,by simpa using hm,rfl⟩)]
 cases op<;>simp only [Op.operands] at h<;>simp only [aOp]
 case build t ps=>rw [pairs ps fun x hx=>h x (by simpa using hx)]
 case buildSlice t n ps=>rw [pairs ps fun x hx=>h x (by simpa using hx)]
 case makeFunc fn first captured =>
  rw [A1e (xs:=first) fun x hx=>h x (by simp [hx]),A1e (xs:=captured) fun x hx=>h x (by simp [hx])]
 case call c =>
  have hargs:=A1e (A:=A) (B:=B) (xs:=c.args) fun x hx=>h x (by simp [Call.operands,hx])
  obtain ⟨callee,args,ts⟩:=c
  cases callee with
  | builtin b=>simp only at hargs ⊢;rw [hargs]
  | invoke r name =>
   have hr:ev A r=ev B r:=h r (by simp [Call.operands])
   simp only at hargs ⊢;rw [hargs,hr]
  | value f =>
   have hf:ev A f=ev B f:=h f (by simp [Call.operands])
   simp only at hargs ⊢;rw [hargs,A8i hf]
 case slice t x lo hi mx=>cases lo<;>cases hi<;>cases mx<;>simp_all
 all_goals (first | rfl | (simp_all;done))
section
variable {ops:Array Oper}
theorem A9m {P:Program} {T:C7} {M:E7} (o:Oper) (A:List AV) (dst:Option Tmp) (v:AV) (h:∀ d,dst=some d→d∉o.looksAt ops) (st:St) (k:KK) :
  aOp P T M o (F3 A dst v) st k=aOp P T M o A st k :=
 B4C (fun x hx=>B2p fun d hd hxd=>h d hd (by
  subst hxd
  exact List.mem_append_left _ (List.mem_filterMap.2 ⟨.tmp d,by simpa using hx,rfl⟩))) st k
theorem A5i (o:Oper) (A:List AV) (dst:Option Tmp) (v:AV) (h:∀ d,dst=some d→d∉o.looksAt ops):R5 ops.toList o (F3 A dst v)=R5 ops.toList o A:=by
 cases dst with
 | none=>rfl
 | some d =>
  unfold R5
  cases hg:o.guard with
  | none=>rfl
  | some gw =>
   obtain ⟨g,want⟩:=gw
   simp only
   cases hp:ops.toList[g]? with
   | none=>rfl
   | some p =>
    simp only
    cases ht:p.dst with
    | none=>rfl
    | some t =>
     have hp':ops[g]?=some p:=by rw [←C9J];exact hp
     have hne:d≠t:=fun e=>h d rfl (by subst e;simp [Oper.looksAt,hg,hp',ht])
     simp only [F3,D0H hne]
theorem A3u (A:List AV) {x y:Option Tmp} (v u:AV) (h:∀ d,x=some d→y≠some d):F3 (F3 A x v) y u=F3 (F3 A y u) x v:=by
 cases x with
 | none=>rfl
 | some d =>
  cases y with
  | none=>rfl
  | some e =>
   have hne:d≠e:=fun he=>h d rfl (he▸rfl)
   simp only [F3];exact List.set_comm _ _ hne
end
def Ext (st st':St):Prop:=∀ b x,st b=some x→st' b=some x
theorem Ext.refl (st:St):Ext st st:=fun _ _ h=>h
def Yq (P:Program) (T:C7) (M:E7) (ops:Array Oper) (o:Oper) (v:AV) (A:List AV) (st:St):Prop :=
 (R5 ops.toList o A=some true∧aOp P T M o A st fun v' st'=>v'=v∧st'=st)∨(R5 ops.toList o A=some false∧v=.tuple [])
def nOp (P:Program) (T:C7) (M:E7) (ops:Array Oper) (eff:Nat→Bool) (i:Nat) (K:KA) (A:List AV) (st:St):Prop :=
 match ops[i]? with
 | none=>K A st
 | some o=>if eff i then (match R5 ops.toList o A with
   | none=>False
   | some b=>(b=true→aOp P T M o A st fun v st'=>K (F3 A o.dst v) st')∧(b=false→K (F3 A o.dst (.tuple [])) st))
  else ∃ v,Yq P T M ops o v A st∧K (F3 A o.dst v) st
def A9L (P:Program) (T:C7) (M:E7) (ops:Array Oper) (eff:Nat→Bool) (Q:KA):Nat→Array Bool→KA
 | 0,listed,A,st=>Region.ready .any ops listed=[]∧Q A st
 | fuel+1,listed,A,st=>(Region.ready .any ops listed=[]→Q A st)∧∀ i∈Region.ready .any ops listed,nOp P T M ops eff i (fun A' st'=>A9L P T M ops eff Q fuel (listed.setIfInBounds i true) A' st') A st
section
variable {P:Program} {T:C7} {M:E7} {ops:Array Oper} {eff:Nat→Bool}
theorem C1K (hG:A3M P T M) {i:Nat} {K:KA} {A:List AV} {a:Act} {st:St} {w:World} {st0:St} {w0:World} {next:Act→World→Prop} {Q:Exit→Act→World→Prop} (hA:H6 w st A a) (hS:E0 st w) (he:P6 st0 w0 st w) (h:nOp P T M ops eff i K A st)
  (hn:∀ A' st' a' w',K A' st'→H6 w' st' A' a'→E0 st' w'→P6 st0 w0 st' w'→next a' w'):wpOp P ops Q i next a w:=by
 unfold nOp at h
 unfold wpOp
 split at h
 ·rename_i ho;rw [ho];exact hn _ _ _ _ h hA hS he
 ·rename_i o ho
  rw [ho]
  simp only
  split at h
  ·split at h
   ·exact h.elim
   ·rename_i b hb
    have hw:=A4x hA hb
    rw [hw]
    cases b with
    | true =>
     rw [if_pos rfl]
     exact .inl (B8l hG hA hS (h.1 rfl) fun v c st' w' hk hv hS' he'=>hn _ _ _ _ hk ((hA.evo he').put o.dst hv) hS' (he.trans he'))
    | false =>
     rw [if_neg (by simp)]
     exact hn _ _ _ _ (h.2 rfl) (hA.put o.dst (A1x _ _)) hS he
  ·obtain ⟨v,hy,hk⟩:=h
   rcases hy with ⟨hb,hop⟩ | ⟨hb,rfl⟩
   ·rw [A4x hA hb,if_pos rfl]
    refine .inl (B8l hG hA hS hop fun v' c st' w' hk' hv hS' he'=>?_)
    obtain ⟨rfl,rfl⟩:=hk'
    exact hn _ _ _ _ hk ((hA.evo he').put o.dst hv) hS' (he.trans he')
   ·rw [A4x hA hb,if_neg (by simp)]
    exact hn _ _ _ _ hk (hA.put o.dst (A1x _ _)) hS he
theorem B0o (hG:A3M P T M) (K:Exit→KA) (st0:St) (w0:World):∀ (fuel:Nat) (listed:Array Bool) (A:List AV) (a:Act) (st:St) (w:World),H6 w st A a→E0 st w→P6 st0 w0 st w →
  A9L P T M ops eff (fun A' st'=>K .normal A' st') fuel listed A st→wpAny P .any ops (A6j K st0 w0) fuel listed a w
 | 0,listed,A,a,st,w,hA,hS,he,h=>⟨h.1,A,st,h.2,hA,hS,he⟩
 | fuel+1,listed,A,a,st,w,hA,hS,he,h=>⟨fun h0=>⟨A,st,h.1 h0,hA,hS,he⟩,fun i hi=>C1K hG hA hS he (h.2 i hi) fun A' st' a' w' hk hA' hS' he'=>B0o hG K st0 w0 fuel _ A' a' st' w' hA' hS' he' hk⟩
theorem Yq.put {o oj:Oper} {v u:AV} {A:List AV} {st:St} (h:Yq P T M ops o v A st) (hne:∀ d,oj.dst=some d→d∉o.looksAt ops):Yq P T M ops o v (F3 A oj.dst u) st:=by
 unfold Yq at *
 rw [A5i o A oj.dst u hne,A9m o A oj.dst u hne];exact h
def A6J (P:Program) (T:C7) (M:E7) (ops:Array Oper) (eff:Nat→Bool) (C:St→Prop) (j:Nat):Prop :=
 ∀ K A st,C st→nOp P T M ops eff j K A st→nOp P T M ops eff j (fun A' st'=>K A' st'∧C st') A st
theorem A0R {C:St→Prop} {j:Nat} (hq:eff j=false):A6J P T M ops eff C j:=fun K A st hC h=>by
 unfold nOp at *
 rw [hq] at h ⊢
 split
 ·rename_i ho;simp only [ho] at h;exact ⟨h,hC⟩
 ·rename_i o ho
  simp only [ho,D0J,D1x] at h ⊢
  obtain ⟨v,hy,hk⟩:=h
  exact ⟨v,hy,hk,hC⟩
end
theorem A1u {r:B5} {cs:List AV} {o:Nat} {k k':AV→Prop} (hk:∀ v,k v→k' v) (h:pick r cs o k):pick r cs o k':=by
 unfold pick at *
 split at h
 ·exact ⟨h.1,hk _ h.2⟩
 ·split at h
  ·exact hk _ h
  ·exact h.elim
theorem A1I {T:C7} {t:TypeId} {p:AV} {st:St} {k k':KK} (hk:∀ v,k v st→k' v st) (h:A0n T t p st k):A0n T t p st k':=by
 unfold A0n at *
 split at h
 ·exact h.elim
 ·split at h
  ·exact A1u hk h
  ·split at h
   ·exact ⟨h.1,h.2.1,A1u hk h.2.2⟩
   ·exact h.elim
  ·exact h.elim
theorem A5O {P:Program} {f:FuncId} {args:List AV} {st:St} {k k':KK} (hk:∀ v st,k v st→k' v st) (h:A0m P f args st k):A0m P f args st k':=by
 obtain ⟨a,s,h1,h2⟩:=h
 exact ⟨a,s,h1,h2.mono hk⟩
theorem J5 {P:Program} {T:C7} {M:E7} {o:Oper} {A:List AV} {st:St} {k k':KK} (hk:∀ v st,k v st→k' v st) (h:aOp P T M o A st k):aOp P T M o A st k':=by
 unfold aOp at *
 split at h
 all_goals repeat' first
  | exact h.elim
  | exact hk _ _ h
  | exact fun e=>hk _ _ (h e)
  | exact fun b e=>hk _ _ (h b e)
  | exact h.imp (hk _ _) fun h b hb=>hk _ _ (h b hb)
  | exact fun e=>⟨(h e).1,fun b hb=>hk _ _ ((h e).2 b hb)⟩
  | exact A1u (fun v=>hk v st) h
  | exact A1I (fun v=>hk v st) h
  | exact A5O hk h
  | exact A1I (fun v h=>A5O hk h) h
  | (refine ⟨h.1,?_⟩;replace h:=h.2)
  | (refine ⟨fun e=>hk _ _ (h.1 e),?_⟩;replace h:=h.2)
  | exact fun e=>⟨(h e).1,hk _ _ (h e).2⟩
  | refine h.imp (fun h=>?_) (fun h=>?_)
  | split at h
  | unfold A3R at h ⊢ | unfold B2e at h ⊢ | unfold A3O at h ⊢ | unfold B0M at h ⊢ | unfold T2 at h ⊢ | unfold A6N at h ⊢ | unfold A5h at h ⊢ | unfold R9 at h ⊢ | unfold A3P at h ⊢ | unfold V1 at h ⊢ | unfold A3Q at h ⊢ | unfold A1l at h ⊢ | unfold W8 at h ⊢ | unfold A1H at h ⊢ | unfold A3n at h ⊢
section
variable {P:Program} {T:C7} {M:E7} {ops:Array Oper} {eff:Nat→Bool}
theorem Q1 {i:Nat} {K K':KA} {A:List AV} {st:St} (h:∀ A st,K A st→K' A st) (hh:nOp P T M ops eff i K A st):nOp P T M ops eff i K' A st:=by
 unfold nOp at *
 split at hh
 ·exact h _ _ hh
 ·split at hh
  ·rename_i he
   rw [if_pos he]
   split at hh
   ·exact hh.elim
   ·exact ⟨fun e=>J5 (fun v st=>h _ _) (hh.1 e),fun e=>h _ _ (hh.2 e)⟩
  ·rename_i he
   rw [if_neg he]
   obtain ⟨v,hy,hk⟩:=hh
   exact ⟨v,hy,h _ _ hk⟩
theorem B3U {j:Nat} {oi oj:Oper} {v:AV} {C:St→Prop} (hj:ops[j]?=some oj) (hap:oi.apart ops oj=true) {K:KA} {A:List AV} {st:St}
  (hy:∀ st',C st'→Yq P T M ops oi v A st') (h:nOp P T M ops eff j K (F3 A oi.dst v) st) :
  nOp P T M ops eff j (fun A' st'=>(∀ st'',C st''→Yq P T M ops oi v A' st'')∧K (F3 A' oi.dst v) st') A st:=by
 obtain ⟨h1,h2,h3⟩:=Oper.apart_spec hap
 unfold nOp at *
 simp only [hj] at h ⊢
 rw [A5i oj A oi.dst v h1] at h
 split at h
 ·rename_i he
  rw [if_pos he]
  split at h
  ·exact h.elim
  ·rename_i b hb
   refine ⟨fun e=>?_,fun e=>⟨fun st'' hc=>(hy st'' hc).put h3,by rw [A3u A (.tuple []) v (fun d hd he=>h2 d he hd)];exact h.2 e⟩⟩
   have h4:=h.1 e
   rw [A9m oj A oi.dst v h1] at h4
   exact J5 (fun u st' hk=>⟨fun st'' hc=>(hy st'' hc).put h3,by rw [A3u A u v (fun d hd he=>h2 d he hd)];exact hk⟩) h4
 ·rename_i he
  rw [if_neg he]
  obtain ⟨u,hyu,hk⟩:=h
  refine ⟨u,?_,fun st'' hc=>(hy st'' hc).put h3,by rw [A3u A u v (fun d hd he=>h2 d he hd)];exact hk⟩
  unfold Yq at *
  rw [A5i oj A oi.dst v h1,A9m oj A oi.dst v h1] at hyu
  exact hyu
theorem A3s {i:Nat} {oi:Oper} {v:AV} {K:KA} {A:List AV} {st:St} (hi:ops[i]?=some oi) (hy:Yq P T M ops oi v A st) (hk:K (F3 A oi.dst v) st):nOp P T M ops eff i K A st:=by
 unfold nOp
 rw [hi]
 simp only
 split
 ·rcases hy with ⟨h1,h2⟩ | ⟨h1,rfl⟩
  ·rw [h1];exact ⟨fun _=>J5 (fun v' st' ⟨e1,e2⟩=>by rw [e1,e2];exact hk) h2,fun e=>(by cases e)⟩
  ·rw [h1];exact ⟨fun e=>(by cases e),fun _=>hk⟩
 ·exact ⟨v,hy,hk⟩
theorem A7p {Q:KA} {C:St→Prop} {i:Nat} {oi:Oper} {v:AV} (hi:ops[i]?=some oi) (Wt:Nat→Prop)
  (hW:∀ j,Wt j→∃ oj,ops[j]?=some oj∧∃ e∈oj.after,Region.binds .any e=true∧(e.on=i∨Wt e.on)) (base:Array Bool) (hkeep:∀ j,j≠i→¬ Wt j→base.getD j true=false→A6J P T M ops eff C j) :
  ∀ (fuel:Nat) (listed:Array Bool) (A:List AV) (st:St),(∀ k,listed.getD k true=false→base.getD k true=false) →
   (∀ j oj,ops[j]?=some oj→j≠i→listed.getD j true=false→(∀ e∈oj.after,Region.binds .any e=true→e.on≠i)→oi.apart ops oj=true) →
   (∀ j,Wt j→listed.getD j false=false) →
   i∈Region.ready .any ops listed→C st→(∀ st',C st'→Yq P T M ops oi v A st') →
   A9L P T M ops eff Q fuel (listed.setIfInBounds i true) (F3 A oi.dst v) st→A9L P T M ops eff Q (fuel+1) listed A st:=by
 intro fuel
 induction fuel with
 | zero =>
  intro listed A st _ _ hWl hr hC hy H
  refine ⟨fun h=>(by rw [h] at hr;cases hr),fun j hj=>?_⟩
  by_cases hji:j=i
  ·subst hji
   exact A3s hi (hy st hC) H
  ·have:=ready_mono hj hji
   rw [H.1] at this
   cases this
 | succ fuel ih =>
  intro listed A st hbase hfree hWl hr hC hy H
  refine ⟨fun h=>(by rw [h] at hr;cases hr),fun j hj=>?_⟩
  by_cases hji:j=i
  ·subst hji
   exact A3s hi (hy st hC) H
  ·have h1:=H.2 j (ready_mono hj hji)
   obtain ⟨hjun,oj,hoj,hall⟩:=mem_ready.1 hj
   have hiun:=(mem_ready.1 hr).1
   have hii:listed.getD i false=false:=by
    rcases D0D i listed.size with h' | h'
    ·simp [h'] at hiun ⊢;exact hiun
    ·simp [D1k h']
   have hnot:∀ e∈oj.after,Region.binds .any e=true→e.on≠i:=fun e he hb heq=>by
    have h1:=hall e he hb
    rw [heq,hii] at h1
    cases h1
   have hnW:¬ Wt j:=fun hw=>by
    obtain ⟨oj',hoj',e,he,hb,hon⟩:=hW j hw
    rw [hoj] at hoj'
    cases hoj'
    have h2:=hall e he hb
    rcases hon with hon | hon
    ·rw [hon,hii] at h2;cases h2
    ·rw [hWl _ hon] at h2;cases h2
   have h2:=hkeep j hji hnW (hbase j hjun) _ _ _ hC (B3U hoj (hfree j oj hoj hji hjun hnot) hy h1)
   have hfree':∀ k ok,ops[k]?=some ok→k≠i→(listed.setIfInBounds j true).getD k true=false →
     (∀ e∈ok.after,Region.binds .any e=true→e.on≠i)→oi.apart ops ok=true:=fun k ok hk hki hun hno=>by
    refine hfree k ok hk hki ?_ hno
    by_cases hjk:j=k
    ·subst hjk;exact hjun
    ·rw [getD_set_ne true hjk] at hun;exact hun
   have hWl':∀ k,Wt k→(listed.setIfInBounds j true).getD k false=false:=fun k hk=>by
    rw [getD_set_ne false (fun (e:j=k)=>hnW (by rw [e];exact hk))];exact hWl k hk
   refine Q1 (fun A' st' h3=>ih (listed.setIfInBounds j true) A' st' (fun k hk=>hbase k (by
    by_cases hjk:j=k
    ·subst hjk;exact hjun
    ·rw [getD_set_ne true hjk] at hk;exact hk)) hfree' hWl' (ready_mono hr (Ne.symm hji)) h3.2 h3.1.1 ?_) h2
   rw [Array.setIfInBounds_comm _ _ hji]
   exact h3.1.2
end
def S5:Op→Bool
 | .move _ | .assign _ | .pick .. | .binOp .. | .unOp .. | .convert .. | .makeInterface .. | .makeFunc .. | .fieldAddr .. | .field .. | .indexAddr .. | .index .. | .extract .. | .typeAssert .. | .nilCheck _ | .build .. | .slice ..=>true
 | .call c=>match c.callee with | .builtin b=>(match b with | .len | .cap | .min | .max=>true | _=>false) | _=>false
 | _=>false
def B3N:Op→Bool
 | .alloc _ | .box .. | .makeSlice ..=>true
 | _=>false
theorem A7A {P:Program} {T:C7} {M:E7} {o:Oper} (hp:S5 o.op=true) {A:List AV} {st st':St} {v:AV} (h:aOp P T M o A st fun v' s=>v'=v∧s=st):aOp P T M o A st' fun v' s=>v'=v∧s=st':=by
 obtain ⟨dst,op,type,pos,after,guard⟩:=o
 cases op<;>simp only [S5,D0J] at hp<;>simp only [aOp,and_true] at h ⊢<;>try exact h
 case call c =>
  obtain ⟨callee,args,ts⟩:=c
  cases callee<;>simp only [D0J] at hp
  rename_i b
  cases b<;>simp only [D0J] at hp<;>simp only [W8,and_true] at h ⊢<;>exact h
def S9 (ops:Array Oper) (i:Nat):Nat→Nat→Bool
 | 0,_=>false
 | n+1,j=>match ops[j]? with
  | none=>false
  | some o=>o.after.any fun e=>Region.binds .any e&&(e.on==i||S9 ops i n e.on)
theorem A6g {ops:Array Oper} {i:Nat}:∀ (n j:Nat),S9 ops i n j=true→S9 ops i (n+1) j=true
 | 0,j,h=>by simp [S9] at h
 | n+1,j,h=>by
  unfold S9 at h ⊢
  split at h
  ·cases h
  ·rename_i o ho
   obtain ⟨e,he,hb⟩:=Array.any_eq_true'.1 h
   refine Array.any_eq_true'.2 ⟨e,he,?_⟩
   simp only [C9l,D0A] at hb ⊢
   exact ⟨hb.1,hb.2.imp id (A6g n e.on)⟩
theorem A6h {ops:Array Oper} {i n j:Nat} (h:S9 ops i n j=true):∃ oj,ops[j]?=some oj∧∃ e∈oj.after,Region.binds .any e=true∧(e.on=i∨S9 ops i n e.on=true):=by
 cases n with
 | zero=>simp [S9] at h
 | succ n =>
  unfold S9 at h
  split at h
  ·cases h
  ·rename_i o ho
   obtain ⟨e,he,hb⟩:=Array.any_eq_true'.1 h
   simp only [C9l,D0A,D0Q] at hb
   exact ⟨o,ho,e,he,hb.1,hb.2.imp id (A6g n e.on)⟩
def waitsN (n:Nat) (ops:Array Oper) (eff:List Nat) (i j:Nat):Bool:=S9 ops i n j||eff.any fun m=>S9 ops i n m&&S9 ops m n j
theorem A6i {n:Nat} {ops:Array Oper} {eff:List Nat} {i j:Nat} (h:waitsN n ops eff i j=true):∃ oj,ops[j]?=some oj∧∃ e∈oj.after,Region.binds .any e=true∧(e.on=i∨waitsN n ops eff i e.on=true):=by
 unfold waitsN at h
 rw [D0A,D2e] at h
 rcases h with h | ⟨m,hm,h⟩
 ·obtain ⟨oj,h1,e,h2,h3,h4⟩:=A6h h
  exact ⟨oj,h1,e,h2,h3,h4.imp id fun h=>by unfold waitsN;rw [h];rfl⟩
 ·rw [C9l] at h
  obtain ⟨oj,h1,e,h2,h3,h4⟩:=A6h h.2
  refine ⟨oj,h1,e,h2,h3,.inr ?_⟩
  unfold waitsN
  rw [D0A,D2e]
  rcases h4 with h4 | h4
  ·exact .inl (by rw [h4];exact h.1)
  ·exact .inr ⟨m,hm,by rw [C9l];exact ⟨h.1,h4⟩⟩
def waitsC (ops:Array Oper) (eff:List Nat) (i j:Nat):Bool:=waitsN 4 ops eff i j||waitsN 7 ops eff i j
theorem A3f {ops:Array Oper} {eff:List Nat} {i j:Nat} (h:waitsC ops eff i j=true):∃ oj,ops[j]?=some oj∧∃ e∈oj.after,Region.binds .any e=true∧(e.on=i∨waitsC ops eff i e.on=true):=by
 unfold waitsC at h
 rw [D0A] at h
 rcases h with h | h
 ·obtain ⟨oj,h1,e,h2,h3,h4⟩:=A6i h
  exact ⟨oj,h1,e,h2,h3,h4.imp id fun h=>by unfold waitsC;rw [h];rfl⟩
 ·obtain ⟨oj,h1,e,h2,h3,h4⟩:=A6i h
  exact ⟨oj,h1,e,h2,h3,h4.imp id fun h=>by unfold waitsC;rw [h,D0d]⟩
def A7s (ops:Array Oper) (eff ext:List Nat):List Nat→Array Bool→Bool
 | [],listed=>(Region.ready .any ops listed).isEmpty
 | i::ord,listed=>(match ops[i]? with
   | none=>false
   | some o =>
    if eff.contains i then Region.ready .any ops listed==[i]
    else (Region.ready .any ops listed).contains i&&Region.free .any ops listed i &&
     (S5 o.op||eff.all fun j=>listed.getD j true||waitsC ops (eff++ext) i j||(ext.contains i&&((ops[j]?).map (B3N ·.op)).getD false))) &&
   A7s ops eff ext ord (listed.setIfInBounds i true)
def A6Z (P:Program) (T:C7) (M:E7) (ops:List Oper) (eff ext:List Nat):List Nat→List AV→St→KA→Prop
 | [],A,st,k=>k A st
 | i::ord,A,st,k=>match ops[i]? with
  | none=>False
  | some o=>match R5 ops o A with
   | none=>False
   | some b=>(b=true→match eff.contains i with
      | true=>aOp P T M o A st fun v st'=>A6Z P T M ops eff ext ord (F3 A o.dst v) st' k
      | false=>∃ v,(match ext.contains i with
        | true=>∀ st',Ext st st'→aOp P T M o A st' fun v' st''=>v'=v∧st''=st'
        | false=>aOp P T M o A st fun v' st''=>v'=v∧st''=st)∧A6Z P T M ops eff ext ord (F3 A o.dst v) st k) ∧
     (b=false→A6Z P T M ops eff ext ord (F3 A o.dst (.tuple [])) st k)
inductive OT where
 | done
 | gen (i:Nat) (t:OT)
 | qui (i:Nat) (t:OT)
 | two (i j:Nat) (t u:OT)
def okT (ops:Array Oper) (eff:List Nat):OT→Nat→Array Bool→Bool
 | .done,n,listed=>n==0&&(Region.ready .any ops listed).isEmpty
 | .gen i t,n,listed=>eff.contains i&&(Region.ready .any ops listed==[i])&&Nat.blt 0 n&&okT ops eff t (n - 1) (listed.setIfInBounds i true)
 | .qui i t,n,listed=>(match ops[i]? with
   | none=>false
   | some o=>(Region.ready .any ops listed).contains i&&Region.free .any ops listed i &&
     (S5 o.op||eff.all fun j=>listed.getD j true||(j==i||waitsC ops eff i j)))&&Nat.blt 0 n&&okT ops eff t (n - 1) (listed.setIfInBounds i true)
 | .two i j t u,n,listed=>eff.contains i&&eff.contains j&&(Region.ready .any ops listed==[i,j])&&Nat.blt 0 n&&okT ops eff t (n - 1) (listed.setIfInBounds i true)&&okT ops eff u (n - 1) (listed.setIfInBounds j true)
def B2l (P:Program) (T:C7) (M:E7) (ops:List Oper) (i:Nat) (K:KA) (A:List AV) (st:St):Prop :=
 match ops[i]? with
 | none=>False
 | some o=>match R5 ops o A with
  | none=>False
  | some b=>(b=true→aOp P T M o A st fun v st'=>K (F3 A o.dst v) st')∧(b=false→K (F3 A o.dst (.tuple [])) st)
def B9c (P:Program) (T:C7) (M:E7) (ops:List Oper) (i:Nat) (K:KA) (A:List AV) (st:St):Prop :=
 match ops[i]? with
 | none=>False
 | some o=>match R5 ops o A with
  | none=>False
  | some b=>(b=true→∃ v,(aOp P T M o A st fun v' st''=>v'=v∧st''=st)∧K (F3 A o.dst v) st)∧(b=false→K (F3 A o.dst (.tuple [])) st)
def A4C (P:Program) (T:C7) (M:E7) (ops:List Oper):OT→List AV→St→KA→Prop
 | .done,A,st,k=>k A st
 | .gen i t,A,st,k=>B2l P T M ops i (fun A' st'=>A4C P T M ops t A' st' k) A st
 | .qui i t,A,st,k=>B9c P T M ops i (fun A' st'=>A4C P T M ops t A' st' k) A st
 | .two i j t u,A,st,k=>B2l P T M ops i (fun A' st'=>A4C P T M ops t A' st' k) A st∧B2l P T M ops j (fun A' st'=>A4C P T M ops u A' st' k) A st
def Dr (P:Program) (T:C7) (M:E7) (ops:List Oper) (A:List AV) (st:St) (k:KA):Prop :=
 ∃ eff ext ord:List Nat,match ord with
  | []=>∃ t:OT,(Region.noSelect ops.toArray&&okT ops.toArray eff t ops.length (Array.replicate ops.length false))=true∧A4C P T M ops t A st k
  | _::_=>(Region.noSelect ops.toArray&&A7s ops.toArray eff ext ord (Array.replicate ops.length false)&&(ord.length==ops.length))=true∧A6Z P T M ops eff ext ord A st k
section
variable {P:Program} {T:C7} {M:E7} {ops:Array Oper}
theorem B4V {eff:Nat→Bool} {st0:St} {j:Nat} {oj:Oper} (hj:ops[j]?=some oj) (hn:B3N oj.op=true):A6J P T M ops eff (Ext st0) j:=fun K A st hC h=>by
 have hext:∀ b x,st b=none→Ext st0 (upd st b x):=fun b x hb c y hc=>by
  unfold upd
  split
  ·rename_i e;subst e;rw [hC _ _ hc] at hb;cases hb
  ·exact hC _ _ hc
 by_cases he:eff j=true
 ·unfold nOp at h ⊢
  simp only [hj,he,if_true] at h ⊢
  split at h
  ·exact h.elim
  ·refine ⟨fun e=>?_,fun e=>⟨h.2 e,hC⟩⟩
   have h1:=h.1 e
   unfold aOp at h1 ⊢
   split at h1
   case h_8 =>
    split at h1
    ·exact ⟨h1.1,h1.2.1,h1.2.2.imp (fun h=>⟨h,hC⟩) fun h b hb=>⟨h b hb,hext _ _ hb⟩⟩
    ·exact h1.elim
   case h_9=>exact ⟨h1.1,h1.2.1,h1.2.2.imp (fun h=>⟨h,hC⟩) fun h b hb=>⟨h b hb,hext _ _ hb⟩⟩
   all_goals first | exact h1.elim | (rename_i ho;rw [ho] at hn;simp [B3N] at hn;done) | (
    unfold A6N at h1 ⊢
    split at h1
    ·exact h1.elim
    ·split at h1
     ·split at h1
      ·exact h1.elim
      ·split at h1
       ·exact h1.imp (fun h1=>⟨h1.1,h1.2.1,h1.2.2.1,h1.2.2.2.1,h1.2.2.2.2.1,h1.2.2.2.2.2.1,fun b hb=>⟨h1.2.2.2.2.2.2 b hb,hext _ _ hb⟩⟩) (fun h1=>⟨h1.1,h1.2.1,h1.2.2.1,h1.2.2.2.1,h1.2.2.2.2.1,h1.2.2.2.2.2.1,fun b hb=>⟨h1.2.2.2.2.2.2 b hb,hext _ _ hb⟩⟩)
       ·exact h1.elim
     ·exact h1.elim)
 ·exact A0R (by simpa using he) K A st hC h
def A4p (ops:Array Oper) (listed:Array Bool):Prop:=∀ j o,listed.getD j false=true→ops[j]?=some o→∀ e∈o.after,Region.binds .any e=true→listed.getD e.on false=true
theorem A4p.set {listed:Array Bool} (h:A4p ops listed) {i:Nat} (hr:i∈Region.ready .any ops listed):A4p ops (listed.setIfInBounds i true):=fun j o hj ho e he hb=>by
 by_cases hij:i=j
 ·subst hij
  obtain ⟨_,o',ho',hall⟩:=mem_ready.1 hr
  rw [ho] at ho'
  cases ho'
  exact getD_set_true (hall e he hb)
 ·rw [getD_set_ne false hij] at hj
  exact getD_set_true (h j o hj ho e he hb)
theorem A4p.waits {listed:Array Bool} (h:A4p ops listed) {i:Nat} (hi:listed.getD i false=false):∀ (n j:Nat),S9 ops i n j=true→listed.getD j false=false
 | 0,j,hw=>by simp [S9] at hw
 | n+1,j,hw=>by
  unfold S9 at hw
  split at hw
  ·cases hw
  ·rename_i o ho
   obtain ⟨e,he,hb⟩:=Array.any_eq_true'.1 hw
   simp only [C9l,D0A,D0Q] at hb
   cases hl:listed.getD j false with
   | false=>rfl
   | true =>
    have h1:=h j o hl ho e he hb.1
    rcases hb.2 with h2 | h2
    ·rw [h2,hi] at h1;cases h1
    ·rw [h.waits hi n e.on h2] at h1;cases h1
theorem A4p.waitsN {listed:Array Bool} (h:A4p ops listed) {n:Nat} {eff:List Nat} {i j:Nat} (hi:listed.getD i false=false) (hw:waitsN n ops eff i j=true):listed.getD j false=false:=by
 unfold Go.Ab.waitsN at hw
 rw [D0A,D2e] at hw
 rcases hw with hw | ⟨m,_,hw⟩
 ·exact h.waits hi n j hw
 ·rw [C9l] at hw
  exact h.waits (h.waits hi n m hw.1) n j hw.2
theorem A4p.waitsC {listed:Array Bool} (h:A4p ops listed) {eff:List Nat} {i j:Nat} (hi:listed.getD i false=false) (hw:waitsC ops eff i j=true):listed.getD j false=false:=by
 unfold Go.Ab.waitsC at hw
 rw [D0A] at hw
 rcases hw with hw | hw
 ·exact h.waitsN hi hw
 ·exact h.waitsN hi hw
theorem N8 {listed:Array Bool} {i:Nat} (h:listed.getD i true=false):listed.getD i false=false:=by
 rcases D0D i listed.size with h' | h'
 ·simp [h'] at h ⊢;exact h
 ·simp [D1k h']
theorem A7a {eff ext:List Nat} {Q:KA} (hs:Region.noSelect ops=true):∀ (ord:List Nat) (listed:Array Bool) (A:List AV) (st:St),A4p ops listed→A7s ops eff ext ord listed=true→A6Z P T M ops.toList eff ext ord A st Q →
  A9L P T M ops (fun j=>eff.contains j) Q ord.length listed A st
 | [],listed,A,st,hD,hO,h=>⟨by simpa [A7s] using hO,h⟩
 | i::ord,listed,A,st,hD,hO,h=>by
  unfold A7s at hO
  simp only [C9l] at hO
  obtain ⟨hO,hO'⟩:=hO
  unfold A6Z at h
  rw [C9J] at h
  cases ho:ops[i]? with
  | none=>rw [ho] at hO;cases hO
  | some o =>
   rw [ho] at hO h
   simp only at hO h
   split at h
   ·exact h.elim
   rename_i b hb
   cases hc:eff.contains i with
   | true =>
    rw [hc] at hO h
    simp only [if_true,D0Q] at hO
    have hr:i∈Region.ready .any ops listed:=by rw [hO];simp
    have ih:=fun A' st' hh=>A7a (eff:=eff) (ext:=ext) (Q:=Q) hs ord (listed.setIfInBounds i true) A' st' (hD.set hr) hO' hh
    refine ⟨fun h0=>(by rw [hO] at h0;cases h0),fun j hj=>?_⟩
    rw [hO] at hj
    simp only [C9Z] at hj
    subst hj
    unfold nOp
    simp only [ho,hc,if_true,hb]
    exact ⟨fun e=>J5 (fun v st' hk=>ih _ _ hk) (h.1 e),fun e=>ih _ _ (h.2 e)⟩
   | false =>
    rw [hc] at hO h
    simp only [D0J,D1x,C9l] at hO
    obtain ⟨⟨hr,hf⟩,hcls⟩:=hO
    have hr':i∈Region.ready .any ops listed:=by simpa using hr
    have ih:=fun A' st' hh=>A7a (eff:=eff) (ext:=ext) (Q:=Q) hs ord (listed.setIfInBounds i true) A' st' (hD.set hr') hO' hh
    have hiun:=N8 (mem_ready.1 hr').1
    have hfree:=Region.free_spec ho hf
    -- one value
    suffices hmain:∃ (v:AV) (C:St→Prop),C st∧(∀ st',C st'→Yq P T M ops o v A st')∧(∀ j,j≠i→¬ waitsC ops (eff++ext) i j=true→listed.getD j true=false→A6J P T M ops (fun j=>eff.contains j) C j)∧A6Z P T M ops.toList eff ext ord (F3 A o.dst v) st Q by
     obtain ⟨v,C,h1,h2,h3,h4⟩:=hmain
     exact A7p (eff:=fun j=>eff.contains j) ho (fun j=>waitsC ops (eff++ext) i j=true) (fun j hj=>A3f hj) listed h3 ord.length listed A st (fun k hk=>hk) hfree (fun j hj=>hD.waitsC hiun hj) hr' h1 h2 (ih _ _ h4)
    have htrue:∀ j,A6J P T M ops (fun j=>eff.contains j) (fun _=>True) j:=fun j K A st _ hh=>Q1 (fun _ _ hk=>⟨hk,trivial⟩) hh
    cases b with
    | false=>exact ⟨.tuple [],fun _=>True,trivial,fun st' _=>.inr ⟨hb,rfl⟩,fun j _ _ _=>htrue j,h.2 rfl⟩
    | true =>
     obtain ⟨v,hv,hrest⟩:=h.1 rfl
     by_cases hp:S5 o.op=true
     ·refine ⟨v,fun _=>True,trivial,fun st' _=>.inl ⟨hb,?_⟩,fun j _ _ _=>htrue j,hrest⟩
      have hst:aOp P T M o A st fun v' s=>v'=v∧s=st:=by
       split at hv
       ·exact hv st (Ext.refl st)
       ·exact hv
      exact A7A hp hst
     ·have hcls':∀ j,eff.contains j=true→listed.getD j true=false→¬ waitsC ops (eff++ext) i j=true→ext.contains i=true∧∃ oj,ops[j]?=some oj∧B3N oj.op=true:=fun j hj hjl hjw=>by
       simp only [hp,D0a,C9O] at hcls
       have:=hcls j (by simpa using hj)
       simp only [hjl,D0a,D0A,C9l] at this
       rcases this with h5 | h5
       ·exact absurd h5 hjw
       ·refine ⟨h5.1,?_⟩
        cases hoj:ops[j]? with
        | none=>rw [hoj] at h5;simp at h5
        | some oj=>rw [hoj] at h5;exact ⟨oj,rfl,by simpa using h5.2⟩
      cases hx:ext.contains i with
      | true =>
       rw [hx] at hv
       refine ⟨v,Ext st,Ext.refl st,fun st' hst'=>.inl ⟨hb,hv st' hst'⟩,fun j hji hjw hjl=>?_,hrest⟩
       by_cases hej:eff.contains j=true
       ·obtain ⟨_,oj,hoj,hnew⟩:=hcls' j hej hjl hjw
        exact B4V hoj hnew
       ·exact A0R (by simpa using hej)
      | false =>
       rw [hx] at hv
       refine ⟨v,fun s=>s=st,rfl,fun st' hst'=>.inl ⟨hb,by rw [hst'];exact hv⟩,fun j hji hjw hjl=>?_,hrest⟩
       by_cases hej:eff.contains j=true
       ·obtain ⟨h6,_⟩:=hcls' j hej hjl hjw
        rw [hx] at h6;cases h6
       ·exact A0R (by simpa using hej)
theorem B2m {eff:List Nat} {i:Nat} {K:KA} {A:List AV} {st:St} (hc:eff.contains i=true) (h:B2l P T M ops.toList i K A st):nOp P T M ops (fun j=>eff.contains j) i K A st:=by
 unfold B2l at h
 rw [C9J] at h
 unfold nOp
 cases ho:ops[i]? with
 | none=>rw [ho] at h;exact h.elim
 | some o =>
  rw [ho] at h
  simp only [hc,if_true] at h ⊢
  split at h
  ·exact h.elim
  ·rename_i b hb
   exact h
theorem A1p {eff:List Nat} {Q:KA}:∀ (t:OT) (n:Nat) (listed:Array Bool) (A:List AV) (st:St),A4p ops listed→okT ops eff t n listed=true→A4C P T M ops.toList t A st Q →
  A9L P T M ops (fun j=>eff.contains j) Q n listed A st
 | .done,n,listed,A,st,hD,hO,h=>by
  unfold okT at hO
  simp only [C9l,D0Q] at hO
  obtain ⟨rfl,hO⟩:=hO
  exact ⟨by simpa using hO,h⟩
 | .gen i t,n,listed,A,st,hD,hO,h=>by
  unfold okT at hO
  simp only [C9l,D0Q,D1s] at hO
  obtain ⟨⟨⟨hc,hr⟩,hn⟩,hO'⟩:=hO
  obtain ⟨n,rfl⟩:∃ m,n=m+1:=⟨n - 1,by omega⟩
  have hr':i∈Region.ready .any ops listed:=by rw [hr];simp
  refine ⟨fun h0=>(by rw [hr] at h0;cases h0),fun j hj=>?_⟩
  rw [hr] at hj
  simp only [C9Z] at hj
  subst hj
  exact Q1 (fun A' st' hk=>A1p t n _ A' st' (hD.set hr') hO' hk) (B2m hc h)
 | .two i j t u,n,listed,A,st,hD,hO,h=>by
  unfold okT at hO
  simp only [C9l,D0Q,D1s] at hO
  obtain ⟨⟨⟨⟨⟨hc1,hc2⟩,hr⟩,hn⟩,hO1⟩,hO2⟩:=hO
  obtain ⟨n,rfl⟩:∃ m,n=m+1:=⟨n - 1,by omega⟩
  have hri:i∈Region.ready .any ops listed:=by rw [hr];simp
  have hrj:j∈Region.ready .any ops listed:=by rw [hr];simp
  obtain ⟨h1,h2⟩:=h
  refine ⟨fun h0=>(by rw [hr] at h0;cases h0),fun k hk=>?_⟩
  rw [hr] at hk
  simp only [D0M,D1b,or_false] at hk
  rcases hk with rfl | rfl
  ·exact Q1 (fun A' st' hk=>A1p t n _ A' st' (hD.set hri) hO1 hk) (B2m hc1 h1)
  ·exact Q1 (fun A' st' hk=>A1p u n _ A' st' (hD.set hrj) hO2 hk) (B2m hc2 h2)
 | .qui i t,n,listed,A,st,hD,hO,h=>by
  unfold okT at hO
  simp only [C9l,D1s] at hO
  obtain ⟨⟨hO,hn⟩,hO'⟩:=hO
  obtain ⟨n,rfl⟩:∃ m,n=m+1:=⟨n - 1,by omega⟩
  unfold A4C B9c at h
  rw [C9J] at h
  cases ho:ops[i]? with
  | none=>rw [ho] at hO;cases hO
  | some o =>
   rw [ho] at hO h
   simp only [C9l] at hO h
   obtain ⟨⟨hr,hf⟩,hcls⟩:=hO
   have hr':i∈Region.ready .any ops listed:=by simpa using hr
   have ih:=fun A' st' hh=>A1p (eff:=eff) (Q:=Q) t n (listed.setIfInBounds i true) A' st' (hD.set hr') hO' hh
   have hiun:=N8 (mem_ready.1 hr').1
   have hfree:=Region.free_spec ho hf
   split at h
   ·exact h.elim
   rename_i b hb
   suffices hmain:∃ (v:AV) (C:St→Prop),C st∧(∀ st',C st'→Yq P T M ops o v A st')∧(∀ j,j≠i→¬ waitsC ops eff i j=true→listed.getD j true=false→A6J P T M ops (fun j=>eff.contains j) C j)∧A4C P T M ops.toList t (F3 A o.dst v) st Q by
    obtain ⟨v,C,h1,h2,h3,h4⟩:=hmain
    exact A7p (eff:=fun j=>eff.contains j) ho (fun j=>waitsC ops eff i j=true) (fun j hj=>A3f hj) listed h3 n listed A st (fun k hk=>hk) hfree (fun j hj=>hD.waitsC hiun hj) hr' h1 h2 (ih _ _ h4)
   have htrue:∀ j,A6J P T M ops (fun j=>eff.contains j) (fun _=>True) j:=fun j K A st _ hh=>Q1 (fun _ _ hk=>⟨hk,trivial⟩) hh
   cases b with
   | false=>exact ⟨.tuple [],fun _=>True,trivial,fun st' _=>.inr ⟨hb,rfl⟩,fun j _ _ _=>htrue j,h.2 rfl⟩
   | true =>
    obtain ⟨v,hv,hrest⟩:=h.1 rfl
    by_cases hp:S5 o.op=true
    ·exact ⟨v,fun _=>True,trivial,fun st' _=>.inl ⟨hb,A7A hp hv⟩,fun j _ _ _=>htrue j,hrest⟩
    ·refine ⟨v,fun s=>s=st,rfl,fun st' hst'=>.inl ⟨hb,by rw [hst'];exact hv⟩,fun j hji hjw hjl=>?_,hrest⟩
     by_cases hej:eff.contains j=true
     ·exfalso
      simp only [hp,D0a,C9O] at hcls
      have:=hcls j (by simpa using hej)
      simp only [hjl,D0a,D0A,D0Q] at this
      rcases this with h5 | h5
      ·exact hji h5
      ·exact hjw h5
     ·exact A0R (by simpa using hej)
theorem C2k (hG:A3M P T M) (hm:P.follows .mixedOrders=true):B8P P (Dr P T M):=fun id ops K st0 w0 A a st w hA hS he h=>by
 obtain ⟨eff,ext,ord,h⟩:=h
 have hD:A4p ops (Array.replicate ops.toList.length false):=fun j o hj ho=>by
  simp [Array.getElem?_replicate] at hj
  split at hj<;>simp at hj
 have hany:A9L P T M ops (fun j=>eff.contains j) (K .normal) ops.toList.length (Array.replicate ops.toList.length false) A st:=by
  split at h
  ·obtain ⟨t,hok,hrun⟩:=h
   simp only [C9l] at hok
   exact A1p t _ (Array.replicate ops.toList.length false) A st hD (by simpa using hok.2) hrun
  ·obtain ⟨hok,hrun⟩:=h
   simp only [C9l,D0Q] at hok
   obtain ⟨⟨hns,hO⟩,hlen⟩:=hok
   have:=A7a (by simpa using hns) _ (Array.replicate ops.toList.length false) A st hD (by simpa using hO) hrun
   rw [hlen] at this;exact this
 refine wp_region_any hm ?_
 have hA':H6 { w with drawn:=w.drawn+1 } st A a:=⟨hA.len,fun i v hv=>hA.at_ i v hv,hA.defers⟩
 have hS':E0 st { w with drawn:=w.drawn+1 }:=fun b x hx=>by
  obtain ⟨cs,h1⟩:=hS b x hx
  exact ⟨cs,⟨h1.heap,h1.size,h1.len,h1.one,h1.cell⟩⟩
 have he':P6 st0 w0 st { w with drawn:=w.drawn+1 }:=⟨he.os,he.tape,he.output,he.size,he.blk,he.szm⟩
 have:=B0o hG K st0 w0 ops.toList.length (Array.replicate ops.toList.length false) A a st { w with drawn:=w.drawn+1 } hA' hS' he' hany
 simpa using this
end
end Go.Ab
