/- Part 10 of the proof: contracts -/
import Derived.Test.YtaapofnkmpiknaaGreatPt9
import Derived.Orders
set_option linter.unusedVariables false
set_option linter.unusedSimpArgs false
namespace Go.Ab
open Go
theorem B8D {A:List AV} {d:Option Tmp} {v:AV} {x:Operand} (h:∀ t,d=some t→x≠.tmp t):ev (K3 A d v) x=ev A x:=by
 cases d with
 | none=>rfl
 | some t =>
  cases x with
  | tmp u =>
   have hne:t≠u:=fun e=>h t rfl (e▸rfl)
   simp [ev,K3,D8V hne]
  | _=>rfl
theorem B3u {A B:List AV} {f:Operand} {args:List AV} (h:ev A f=ev B f):A5f A (.value f) args=A5f B (.value f) args:=by
 simp only [A5f,h]
theorem A4j {A B:List AV} {xs:Array Operand} (h:∀ x∈xs,ev A x=ev B x):xs.toList.map (ev A)=xs.toList.map (ev B) :=
 D8x fun x hx=>h x (by simpa using hx)
theorem C1i {P:Program} {T:H5} {M:J5} {o:Oper} {A B:List AV} (h:∀ x∈o.op.operands,ev A x=ev B x) (st:St) (k:KK):aOp P T M o A st k=aOp P T M o B st k:=by
 obtain ⟨dst,op,type,pos,after,guard⟩:=o
 have pairs:∀ ps:Array (Nat×Operand),(∀ x∈ps.map (·.2),ev A x=ev B x)→evP A ps=evP B ps:=fun ps hp =>
  D8x fun p hm=>by rw [hp p.2 (Array.mem_map.2 ⟨p,by simpa using hm,rfl⟩)]
 cases op<;>simp only [Op.operands] at h<;>simp only [aOp]
 case build t ps=>rw [pairs ps fun x hx=>h x (by simpa using hx)]
 case buildSlice t n ps=>rw [pairs ps fun x hx=>h x (by simpa using hx)]
 case makeFunc fn first captured =>
  rw [A4j (xs:=first) fun x hx=>h x (by simp [hx]),A4j (xs:=captured) fun x hx=>h x (by simp [hx])]
 case call c =>
  have hargs:=A4j (A:=A) (B:=B) (xs:=c.args) fun x hx=>h x (by simp [Call.operands,hx])
  obtain ⟨callee,args,ts⟩:=c
  cases callee with
  | builtin b=>simp only at hargs ⊢;rw [hargs]
  | invoke r name =>
   have hr:ev A r=ev B r:=h r (by simp [Call.operands])
   simp only at hargs ⊢;rw [hargs,hr]
  | value f =>
   have hf:ev A f=ev B f:=h f (by simp [Call.operands])
   simp only at hargs ⊢;rw [hargs,B3u hf]
 case slice t x lo hi mx=>cases lo<;>cases hi<;>cases mx<;>simp_all
 all_goals (first | rfl | (simp_all;done))
section
variable {ops:Array Oper}
theorem B4L {P:Program} {T:H5} {M:J5} (o:Oper) (A:List AV) (dst:Option Tmp) (v:AV) (h:∀ d,dst=some d→d∉o.looksAt ops) (st:St) (k:KK) :
  aOp P T M o (K3 A dst v) st k=aOp P T M o A st k :=
 C1i (fun x hx=>B8D fun d hd hxd=>h d hd (by
  subst hxd
  exact List.mem_append_left _ (List.mem_filterMap.2 ⟨.tmp d,by simpa using hx,rfl⟩))) st k
theorem A9s (o:Oper) (A:List AV) (dst:Option Tmp) (v:AV) (h:∀ d,dst=some d→d∉o.looksAt ops):A1h ops.toList o (K3 A dst v)=A1h ops.toList o A:=by
 cases dst with
 | none=>rfl
 | some d =>
  unfold A1h
  cases hg:o.guard with
  | none=>rfl
  | some gw =>
   obtain ⟨g,want⟩:=gw
   simp only
   cases hp:ops.toList[g]? with
   | none=>rfl
   | some p =>
    simp only
    cases ht:p.dst with
    | none=>rfl
    | some t =>
     have hp':ops[g]?=some p:=by rw [←D7T];exact hp
     have hne:d≠t:=fun e=>h d rfl (by subst e;simp [Oper.looksAt,hg,hp',ht])
     simp only [K3,D8V hne]
theorem A7h (A:List AV) {x y:Option Tmp} (v u:AV) (h:∀ d,x=some d→y≠some d):K3 (K3 A x v) y u=K3 (K3 A y u) x v:=by
 cases x with
 | none=>rfl
 | some d =>
  cases y with
  | none=>rfl
  | some e =>
   have hne:d≠e:=fun he=>h d rfl (he▸rfl)
   simp only [K3];exact List.set_comm _ _ hne
end
def Ext (st st':St):Prop:=∀ b x,st b=some x→st' b=some x
theorem Ext.refl (st:St):Ext st st:=fun _ _ h=>h
def Yq (P:Program) (T:H5) (M:J5) (ops:Array Oper) (o:Oper) (v:AV) (A:List AV) (st:St):Prop :=
 (A1h ops.toList o A=some true∧aOp P T M o A st fun v' st'=>v'=v∧st'=st)∨(A1h ops.toList o A=some false∧v=.tuple [])
def nOp (P:Program) (T:H5) (M:J5) (ops:Array Oper) (eff:Nat→Bool) (i:Nat) (K:KA) (A:List AV) (st:St):Prop :=
 match ops[i]? with
 | none=>K A st
 | some o=>if eff i then (match A1h ops.toList o A with
   | none=>False
   | some b=>(b=true→aOp P T M o A st fun v st'=>K (K3 A o.dst v) st')∧(b=false→K (K3 A o.dst (.tuple [])) st))
  else ∃ v,Yq P T M ops o v A st∧K (K3 A o.dst v) st
def B5i (P:Program) (T:H5) (M:J5) (ops:Array Oper) (eff:Nat→Bool) (Q:KA):Nat→Array Bool→KA
 | 0,listed,A,st=>Region.ready .any ops listed=[]∧Q A st
 | fuel+1,listed,A,st=>(Region.ready .any ops listed=[]→Q A st)∧∀ i∈Region.ready .any ops listed,nOp P T M ops eff i (fun A' st'=>B5i P T M ops eff Q fuel (listed.setIfInBounds i true) A' st') A st
section
variable {P:Program} {T:H5} {M:J5} {ops:Array Oper} {eff:Nat→Bool}
theorem D0o (hG:A7H P T M) {i:Nat} {K:KA} {A:List AV} {a:Act} {st:St} {w:World} {st0:St} {w0:World} {next:Act→World→Prop} {Q:Exit→Act→World→Prop} (hA:Q0 w st A a) (hS:H9 st w) (he:Evo st0 w0 st w) (h:nOp P T M ops eff i K A st)
  (hn:∀ A' st' a' w',K A' st'→Q0 w' st' A' a'→H9 st' w'→Evo st0 w0 st' w'→next a' w'):wpOp P ops Q i next a w:=by
 unfold nOp at h
 unfold wpOp
 split at h
 ·rename_i ho;rw [ho];exact hn _ _ _ _ h hA hS he
 ·rename_i o ho
  rw [ho]
  simp only
  split at h
  ·split at h
   ·exact h.elim
   ·rename_i b hb
    have hw:=A8s hA hb
    rw [hw]
    cases b with
    | true =>
     rw [if_pos rfl]
     exact .inl (C5G hG hA hS (h.1 rfl) fun v c st' w' hk hv hS' he'=>hn _ _ _ _ hk ((hA.evo he').put o.dst hv) hS' (he.trans he'))
    | false =>
     rw [if_neg (by simp)]
     exact hn _ _ _ _ (h.2 rfl) (hA.put o.dst (A4N _ _)) hS he
  ·obtain ⟨v,hy,hk⟩:=h
   rcases hy with ⟨hb,hop⟩ | ⟨hb,rfl⟩
   ·rw [A8s hA hb,if_pos rfl]
    refine .inl (C5G hG hA hS hop fun v' c st' w' hk' hv hS' he'=>?_)
    obtain ⟨rfl,rfl⟩:=hk'
    exact hn _ _ _ _ hk ((hA.evo he').put o.dst hv) hS' (he.trans he')
   ·rw [A8s hA hb,if_neg (by simp)]
    exact hn _ _ _ _ hk (hA.put o.dst (A4N _ _)) hS he
theorem B5M (hG:A7H P T M) (K:Exit→KA) (st0:St) (w0:World):∀ (fuel:Nat) (listed:Array Bool) (A:List AV) (a:Act) (st:St) (w:World),Q0 w st A a→H9 st w→Evo st0 w0 st w →
  B5i P T M ops eff (fun A' st'=>K .normal A' st') fuel listed A st→wpAny P .any ops (B0J K st0 w0) fuel listed a w
 | 0,listed,A,a,st,w,hA,hS,he,h=>⟨h.1,A,st,h.2,hA,hS,he⟩
 | fuel+1,listed,A,a,st,w,hA,hS,he,h=>⟨fun h0=>⟨A,st,h.1 h0,hA,hS,he⟩,fun i hi=>D0o hG hA hS he (h.2 i hi) fun A' st' a' w' hk hA' hS' he'=>B5M hG K st0 w0 fuel _ A' a' st' w' hA' hS' he' hk⟩
theorem Yq.put {o oj:Oper} {v u:AV} {A:List AV} {st:St} (h:Yq P T M ops o v A st) (hne:∀ d,oj.dst=some d→d∉o.looksAt ops):Yq P T M ops o v (K3 A oj.dst u) st:=by
 unfold Yq at *
 rw [A9s o A oj.dst u hne,B4L o A oj.dst u hne];exact h
def B1p (P:Program) (T:H5) (M:J5) (ops:Array Oper) (eff:Nat→Bool) (C:St→Prop) (j:Nat):Prop :=
 ∀ K A st,C st→nOp P T M ops eff j K A st→nOp P T M ops eff j (fun A' st'=>K A' st'∧C st') A st
theorem A3Y {C:St→Prop} {j:Nat} (hq:eff j=false):B1p P T M ops eff C j:=fun K A st hC h=>by
 unfold nOp at *
 rw [hq] at h ⊢
 split
 ·rename_i ho;simp only [ho] at h;exact ⟨h,hC⟩
 ·rename_i o ho
  simp only [ho,D8Y,D9L] at h ⊢
  obtain ⟨v,hy,hk⟩:=h
  exact ⟨v,hy,hk,hC⟩
end
theorem A4I {r:C0} {cs:List AV} {o:Nat} {k k':AV→Prop} (hk:∀ v,k v→k' v) (h:pick r cs o k):pick r cs o k':=by
 unfold pick at *
 split at h
 ·exact ⟨h.1,hk _ h.2⟩
 ·split at h
  ·exact hk _ h
  ·exact h.elim
theorem A5e {T:H5} {t:TypeId} {p:AV} {st:St} {k k':KK} (hk:∀ v,k v st→k' v st) (h:A3A T t p st k):A3A T t p st k':=by
 unfold A3A at *
 split at h
 ·exact h.elim
 ·split at h
  ·exact A4I hk h
  ·split at h
   ·exact ⟨h.1,h.2.1,A4I hk h.2.2⟩
   ·exact h.elim
  ·exact h.elim
theorem B0i {P:Program} {f:FuncId} {args:List AV} {st:St} {k k':KK} (hk:∀ v st,k v st→k' v st) (h:A3z P f args st k):A3z P f args st k':=by
 obtain ⟨a,s,h1,h2⟩:=h
 exact ⟨a,s,h1,h2.mono hk⟩
theorem S8 {P:Program} {T:H5} {M:J5} {o:Oper} {A:List AV} {st:St} {k k':KK} (hk:∀ v st,k v st→k' v st) (h:aOp P T M o A st k):aOp P T M o A st k':=by
 unfold aOp at *
 split at h
 all_goals repeat' first
  | exact h.elim
  | exact hk _ _ h
  | exact fun e=>hk _ _ (h e)
  | exact fun b e=>hk _ _ (h b e)
  | exact h.imp (hk _ _) fun h b hb=>hk _ _ (h b hb)
  | exact fun e=>⟨(h e).1,fun b hb=>hk _ _ ((h e).2 b hb)⟩
  | exact A4I (fun v=>hk v st) h
  | exact A5e (fun v=>hk v st) h
  | exact B0i hk h
  | exact A5e (fun v h=>B0i hk h) h
  | (refine ⟨h.1,?_⟩;replace h:=h.2)
  | (refine ⟨fun e=>hk _ _ (h.1 e),?_⟩;replace h:=h.2)
  | exact fun e=>⟨(h e).1,hk _ _ (h e).2⟩
  | refine h.imp (fun h=>?_) (fun h=>?_)
  | split at h
  | unfold A7M at h ⊢ | unfold B8m at h ⊢ | unfold A7J at h ⊢ | unfold B6k at h ⊢ | unfold A1I at h ⊢ | unfold B1r at h ⊢ | unfold A9r at h ⊢ | unfold A1w at h ⊢ | unfold A7K at h ⊢ | unfold A2r at h ⊢ | unfold A7L at h ⊢ | unfold A4w at h ⊢ | unfold A2I at h ⊢ | unfold A5d at h ⊢ | unfold A6U at h ⊢
section
variable {P:Program} {T:H5} {M:J5} {ops:Array Oper} {eff:Nat→Bool}
theorem A0S {i:Nat} {K K':KA} {A:List AV} {st:St} (h:∀ A st,K A st→K' A st) (hh:nOp P T M ops eff i K A st):nOp P T M ops eff i K' A st:=by
 unfold nOp at *
 split at hh
 ·exact h _ _ hh
 ·split at hh
  ·rename_i he
   rw [if_pos he]
   split at hh
   ·exact hh.elim
   ·exact ⟨fun e=>S8 (fun v st=>h _ _) (hh.1 e),fun e=>h _ _ (hh.2 e)⟩
  ·rename_i he
   rw [if_neg he]
   obtain ⟨v,hy,hk⟩:=hh
   exact ⟨v,hy,h _ _ hk⟩
theorem C0y {j:Nat} {oi oj:Oper} {v:AV} {C:St→Prop} (hj:ops[j]?=some oj) (hap:oi.apart ops oj=true) {K:KA} {A:List AV} {st:St}
  (hy:∀ st',C st'→Yq P T M ops oi v A st') (h:nOp P T M ops eff j K (K3 A oi.dst v) st) :
  nOp P T M ops eff j (fun A' st'=>(∀ st'',C st''→Yq P T M ops oi v A' st'')∧K (K3 A' oi.dst v) st') A st:=by
 obtain ⟨h1,h2,h3⟩:=Oper.apart_spec hap
 unfold nOp at *
 simp only [hj] at h ⊢
 rw [A9s oj A oi.dst v h1] at h
 split at h
 ·rename_i he
  rw [if_pos he]
  split at h
  ·exact h.elim
  ·rename_i b hb
   refine ⟨fun e=>?_,fun e=>⟨fun st'' hc=>(hy st'' hc).put h3,by rw [A7h A (.tuple []) v (fun d hd he=>h2 d he hd)];exact h.2 e⟩⟩
   have h4:=h.1 e
   rw [B4L oj A oi.dst v h1] at h4
   exact S8 (fun u st' hk=>⟨fun st'' hc=>(hy st'' hc).put h3,by rw [A7h A u v (fun d hd he=>h2 d he hd)];exact hk⟩) h4
 ·rename_i he
  rw [if_neg he]
  obtain ⟨u,hyu,hk⟩:=h
  refine ⟨u,?_,fun st'' hc=>(hy st'' hc).put h3,by rw [A7h A u v (fun d hd he=>h2 d he hd)];exact hk⟩
  unfold Yq at *
  rw [A9s oj A oi.dst v h1,B4L oj A oi.dst v h1] at hyu
  exact hyu
theorem A7d {i:Nat} {oi:Oper} {v:AV} {K:KA} {A:List AV} {st:St} (hi:ops[i]?=some oi) (hy:Yq P T M ops oi v A st) (hk:K (K3 A oi.dst v) st):nOp P T M ops eff i K A st:=by
 unfold nOp
 rw [hi]
 simp only
 split
 ·rcases hy with ⟨h1,h2⟩ | ⟨h1,rfl⟩
  ·rw [h1];exact ⟨fun _=>S8 (fun v' st' ⟨e1,e2⟩=>by rw [e1,e2];exact hk) h2,fun e=>(by cases e)⟩
  ·rw [h1];exact ⟨fun e=>(by cases e),fun _=>hk⟩
 ·exact ⟨v,hy,hk⟩
theorem B2d {Q:KA} {C:St→Prop} {i:Nat} {oi:Oper} {v:AV} (hi:ops[i]?=some oi) (Wt:Nat→Prop)
  (hW:∀ j,Wt j→∃ oj,ops[j]?=some oj∧∃ e∈oj.after,Region.binds .any e=true∧(e.on=i∨Wt e.on)) (base:Array Bool) (hkeep:∀ j,j≠i→¬ Wt j→base.getD j true=false→B1p P T M ops eff C j) :
  ∀ (fuel:Nat) (listed:Array Bool) (A:List AV) (st:St),(∀ k,listed.getD k true=false→base.getD k true=false) →
   (∀ j oj,ops[j]?=some oj→j≠i→listed.getD j true=false→(∀ e∈oj.after,Region.binds .any e=true→e.on≠i)→oi.apart ops oj=true) →
   (∀ j,Wt j→listed.getD j false=false) →
   i∈Region.ready .any ops listed→C st→(∀ st',C st'→Yq P T M ops oi v A st') →
   B5i P T M ops eff Q fuel (listed.setIfInBounds i true) (K3 A oi.dst v) st→B5i P T M ops eff Q (fuel+1) listed A st:=by
 intro fuel
 induction fuel with
 | zero =>
  intro listed A st _ _ hWl hr hC hy H
  refine ⟨fun h=>(by rw [h] at hr;cases hr),fun j hj=>?_⟩
  by_cases hji:j=i
  ·subst hji
   exact A7d hi (hy st hC) H
  ·have:=ready_mono hj hji
   rw [H.1] at this
   cases this
 | succ fuel ih =>
  intro listed A st hbase hfree hWl hr hC hy H
  refine ⟨fun h=>(by rw [h] at hr;cases hr),fun j hj=>?_⟩
  by_cases hji:j=i
  ·subst hji
   exact A7d hi (hy st hC) H
  ·have h1:=H.2 j (ready_mono hj hji)
   obtain ⟨hjun,oj,hoj,hall⟩:=mem_ready.1 hj
   have hiun:=(mem_ready.1 hr).1
   have hii:listed.getD i false=false:=by
    rcases D8E i listed.size with h' | h'
    ·simp [h'] at hiun ⊢;exact hiun
    ·simp [D9x h']
   have hnot:∀ e∈oj.after,Region.binds .any e=true→e.on≠i:=fun e he hb heq=>by
    have h1:=hall e he hb
    rw [heq,hii] at h1
    cases h1
   have hnW:¬ Wt j:=fun hw=>by
    obtain ⟨oj',hoj',e,he,hb,hon⟩:=hW j hw
    rw [hoj] at hoj'
    cases hoj'
    have h2:=hall e he hb
    rcases hon with hon | hon
    ·rw [hon,hii] at h2;cases h2
    ·rw [hWl _ hon] at h2;cases h2
   have h2:=hkeep j hji hnW (hbase j hjun) _ _ _ hC (C0y hoj (hfree j oj hoj hji hjun hnot) hy h1)
   have hfree':∀ k ok,ops[k]?=some ok→k≠i→(listed.setIfInBounds j true).getD k true=false →
     (∀ e∈ok.after,Region.binds .any e=true→e.on≠i)→oi.apart ops ok=true:=fun k ok hk hki hun hno=>by
    refine hfree k ok hk hki ?_ hno
    by_cases hjk:j=k
    ·subst hjk;exact hjun
    ·rw [getD_set_ne true hjk] at hun;exact hun
   have hWl':∀ k,Wt k→(listed.setIfInBounds j true).getD k false=false:=fun k hk=>by
    rw [getD_set_ne false (fun (e:j=k)=>hnW (by rw [e];exact hk))];exact hWl k hk
   refine A0S (fun A' st' h3=>ih (listed.setIfInBounds j true) A' st' (fun k hk=>hbase k (by
    by_cases hjk:j=k
    ·subst hjk;exact hjun
    ·rw [getD_set_ne true hjk] at hk;exact hk)) hfree' hWl' (ready_mono hr (Ne.symm hji)) h3.2 h3.1.1 ?_) h2
   rw [Array.setIfInBounds_comm _ _ hji]
   exact h3.1.2
end
def A1A:Op→Bool
 | .move _ | .assign _ | .pick .. | .binOp .. | .unOp .. | .convert .. | .makeInterface .. | .makeFunc .. | .fieldAddr .. | .field .. | .indexAddr .. | .index .. | .extract .. | .typeAssert .. | .nilCheck _ | .build .. | .slice ..=>true
 | .call c=>match c.callee with | .builtin b=>(match b with | .len | .cap | .min | .max=>true | _=>false) | _=>false
 | _=>false
def C0s:Op→Bool
 | .alloc _ | .box .. | .makeSlice ..=>true
 | _=>false
theorem B2w {P:Program} {T:H5} {M:J5} {o:Oper} (hp:A1A o.op=true) {A:List AV} {st st':St} {v:AV} (h:aOp P T M o A st fun v' s=>v'=v∧s=st):aOp P T M o A st' fun v' s=>v'=v∧s=st':=by
 obtain ⟨dst,op,type,pos,after,guard⟩:=o
 cases op<;>simp only [A1A,D8Y] at hp<;>simp only [aOp,and_true] at h ⊢<;>try exact h
 case call c =>
  obtain ⟨callee,args,ts⟩:=c
  cases callee<;>simp only [D8Y] at hp
  rename_i b
  cases b<;>simp only [D8Y] at hp<;>simp only [A2I,and_true] at h ⊢<;>exact h
def A1G (ops:Array Oper) (i:Nat):Nat→Nat→Bool
 | 0,_=>false
 | n+1,j=>match ops[j]? with
  | none=>false
  | some o=>o.after.any fun e=>Region.binds .any e&&(e.on==i||A1G ops i n e.on)
theorem B0G {ops:Array Oper} {i:Nat}:∀ (n j:Nat),A1G ops i n j=true→A1G ops i (n+1) j=true
 | 0,j,h=>by simp [A1G] at h
 | n+1,j,h=>by
  unfold A1G at h ⊢
  split at h
  ·cases h
  ·rename_i o ho
   obtain ⟨e,he,hb⟩:=Array.any_eq_true'.1 h
   refine Array.any_eq_true'.2 ⟨e,he,?_⟩
   simp only [D7f,D8g] at hb ⊢
   exact ⟨hb.1,hb.2.imp id (B0G n e.on)⟩
theorem B0H {ops:Array Oper} {i n j:Nat} (h:A1G ops i n j=true):∃ oj,ops[j]?=some oj∧∃ e∈oj.after,Region.binds .any e=true∧(e.on=i∨A1G ops i n e.on=true):=by
 cases n with
 | zero=>simp [A1G] at h
 | succ n =>
  unfold A1G at h
  split at h
  ·cases h
  ·rename_i o ho
   obtain ⟨e,he,hb⟩:=Array.any_eq_true'.1 h
   simp only [D7f,D8g,D7Z] at hb
   exact ⟨o,ho,e,he,hb.1,hb.2.imp id (B0G n e.on)⟩
def waitsN (n:Nat) (ops:Array Oper) (eff:List Nat) (i j:Nat):Bool:=A1G ops i n j||eff.any fun m=>A1G ops i n m&&A1G ops m n j
theorem B0I {n:Nat} {ops:Array Oper} {eff:List Nat} {i j:Nat} (h:waitsN n ops eff i j=true):∃ oj,ops[j]?=some oj∧∃ e∈oj.after,Region.binds .any e=true∧(e.on=i∨waitsN n ops eff i e.on=true):=by
 unfold waitsN at h
 rw [D8g,D8N] at h
 rcases h with h | ⟨m,hm,h⟩
 ·obtain ⟨oj,h1,e,h2,h3,h4⟩:=B0H h
  exact ⟨oj,h1,e,h2,h3,h4.imp id fun h=>by unfold waitsN;rw [h];rfl⟩
 ·rw [D7f] at h
  obtain ⟨oj,h1,e,h2,h3,h4⟩:=B0H h.2
  refine ⟨oj,h1,e,h2,h3,.inr ?_⟩
  unfold waitsN
  rw [D8g,D8N]
  rcases h4 with h4 | h4
  ·exact .inl (by rw [h4];exact h.1)
  ·exact .inr ⟨m,hm,by rw [D7f];exact ⟨h.1,h4⟩⟩
def waitsC (ops:Array Oper) (eff:List Nat) (i j:Nat):Bool:=waitsN 4 ops eff i j||waitsN 7 ops eff i j
theorem A6M {ops:Array Oper} {eff:List Nat} {i j:Nat} (h:waitsC ops eff i j=true):∃ oj,ops[j]?=some oj∧∃ e∈oj.after,Region.binds .any e=true∧(e.on=i∨waitsC ops eff i e.on=true):=by
 unfold waitsC at h
 rw [D8g] at h
 rcases h with h | h
 ·obtain ⟨oj,h1,e,h2,h3,h4⟩:=B0I h
  exact ⟨oj,h1,e,h2,h3,h4.imp id fun h=>by unfold waitsC;rw [h];rfl⟩
 ·obtain ⟨oj,h1,e,h2,h3,h4⟩:=B0I h
  exact ⟨oj,h1,e,h2,h3,h4.imp id fun h=>by unfold waitsC;rw [h,D7U]⟩
def B2i (ops:Array Oper) (eff ext:List Nat):List Nat→Array Bool→Bool
 | [],listed=>(Region.ready .any ops listed).isEmpty
 | i::ord,listed=>(match ops[i]? with
   | none=>false
   | some o =>
    if eff.contains i then Region.ready .any ops listed==[i]
    else (Region.ready .any ops listed).contains i&&Region.free .any ops listed i &&
     (A1A o.op||eff.all fun j=>listed.getD j true||waitsC ops (eff++ext) i j||(ext.contains i&&((ops[j]?).map (C0s ·.op)).getD false))) &&
   B2i ops eff ext ord (listed.setIfInBounds i true)
def B1H (P:Program) (T:H5) (M:J5) (ops:List Oper) (eff ext:List Nat):List Nat→List AV→St→KA→Prop
 | [],A,st,k=>k A st
 | i::ord,A,st,k=>match ops[i]? with
  | none=>False
  | some o=>match A1h ops o A with
   | none=>False
   | some b=>(b=true→match eff.contains i with
      | true=>aOp P T M o A st fun v st'=>B1H P T M ops eff ext ord (K3 A o.dst v) st' k
      | false=>∃ v,(match ext.contains i with
        | true=>∀ st',Ext st st'→aOp P T M o A st' fun v' st''=>v'=v∧st''=st'
        | false=>aOp P T M o A st fun v' st''=>v'=v∧st''=st)∧B1H P T M ops eff ext ord (K3 A o.dst v) st k) ∧
     (b=false→B1H P T M ops eff ext ord (K3 A o.dst (.tuple [])) st k)
inductive OT where
 | done
 | gen (i:Nat) (t:OT)
 | qui (i:Nat) (t:OT)
 | two (i j:Nat) (t u:OT)
def okT (ops:Array Oper) (eff:List Nat):OT→Nat→Array Bool→Bool
 | .done,n,listed=>n==0&&(Region.ready .any ops listed).isEmpty
 | .gen i t,n,listed=>eff.contains i&&(Region.ready .any ops listed==[i])&&Nat.blt 0 n&&okT ops eff t (n - 1) (listed.setIfInBounds i true)
 | .qui i t,n,listed=>(match ops[i]? with
   | none=>false
   | some o=>(Region.ready .any ops listed).contains i&&Region.free .any ops listed i &&
     (A1A o.op||eff.all fun j=>listed.getD j true||(j==i||waitsC ops eff i j)))&&Nat.blt 0 n&&okT ops eff t (n - 1) (listed.setIfInBounds i true)
 | .two i j t u,n,listed=>eff.contains i&&eff.contains j&&(Region.ready .any ops listed==[i,j])&&Nat.blt 0 n&&okT ops eff t (n - 1) (listed.setIfInBounds i true)&&okT ops eff u (n - 1) (listed.setIfInBounds j true)
def B8x (P:Program) (T:H5) (M:J5) (ops:List Oper) (i:Nat) (K:KA) (A:List AV) (st:St):Prop :=
 match ops[i]? with
 | none=>False
 | some o=>match A1h ops o A with
  | none=>False
  | some b=>(b=true→aOp P T M o A st fun v st'=>K (K3 A o.dst v) st')∧(b=false→K (K3 A o.dst (.tuple [])) st)
def C6C (P:Program) (T:H5) (M:J5) (ops:List Oper) (i:Nat) (K:KA) (A:List AV) (st:St):Prop :=
 match ops[i]? with
 | none=>False
 | some o=>match A1h ops o A with
  | none=>False
  | some b=>(b=true→∃ v,(aOp P T M o A st fun v' st''=>v'=v∧st''=st)∧K (K3 A o.dst v) st)∧(b=false→K (K3 A o.dst (.tuple [])) st)
def A8y (P:Program) (T:H5) (M:J5) (ops:List Oper):OT→List AV→St→KA→Prop
 | .done,A,st,k=>k A st
 | .gen i t,A,st,k=>B8x P T M ops i (fun A' st'=>A8y P T M ops t A' st' k) A st
 | .qui i t,A,st,k=>C6C P T M ops i (fun A' st'=>A8y P T M ops t A' st' k) A st
 | .two i j t u,A,st,k=>B8x P T M ops i (fun A' st'=>A8y P T M ops t A' st' k) A st∧B8x P T M ops j (fun A' st'=>A8y P T M ops u A' st' k) A st
def Dr (P:Program) (T:H5) (M:J5) (ops:List Oper) (A:List AV) (st:St) (k:KA):Prop :=
 ∃ eff ext ord:List Nat,match ord with
  | []=>∃ t:OT,(Region.noSelect ops.toArray&&okT ops.toArray eff t ops.length (Array.replicate ops.length false))=true∧A8y P T M ops t A st k
  | _::_=>(Region.noSelect ops.toArray&&B2i ops.toArray eff ext ord (Array.replicate ops.length false)&&(ord.length==ops.length))=true∧B1H P T M ops eff ext ord A st k
section
variable {P:Program} {T:H5} {M:J5} {ops:Array Oper}
theorem C1H {eff:Nat→Bool} {st0:St} {j:Nat} {oj:Oper} (hj:ops[j]?=some oj) (hn:C0s oj.op=true):B1p P T M ops eff (Ext st0) j:=fun K A st hC h=>by
 have hext:∀ b x,st b=none→Ext st0 (upd st b x):=fun b x hb c y hc=>by
  unfold upd
  split
  ·rename_i e;subst e;rw [hC _ _ hc] at hb;cases hb
  ·exact hC _ _ hc
 by_cases he:eff j=true
 ·unfold nOp at h ⊢
  simp only [hj,he,if_true] at h ⊢
  split at h
  ·exact h.elim
  ·refine ⟨fun e=>?_,fun e=>⟨h.2 e,hC⟩⟩
   have h1:=h.1 e
   unfold aOp at h1 ⊢
   split at h1
   case h_8 =>
    split at h1
    ·exact ⟨h1.1,h1.2.1,h1.2.2.imp (fun h=>⟨h,hC⟩) fun h b hb=>⟨h b hb,hext _ _ hb⟩⟩
    ·exact h1.elim
   case h_9=>exact ⟨h1.1,h1.2.1,h1.2.2.imp (fun h=>⟨h,hC⟩) fun h b hb=>⟨h b hb,hext _ _ hb⟩⟩
   all_goals first | exact h1.elim | (rename_i ho;rw [ho] at hn;simp [C0s] at hn;done) | (
    unfold B1r at h1 ⊢
    split at h1
    ·exact h1.elim
    ·split at h1
     ·split at h1
      ·exact h1.elim
      ·split at h1
       ·exact h1.imp (fun h1=>⟨h1.1,h1.2.1,h1.2.2.1,h1.2.2.2.1,h1.2.2.2.2.1,h1.2.2.2.2.2.1,fun b hb=>⟨h1.2.2.2.2.2.2 b hb,hext _ _ hb⟩⟩) (fun h1=>⟨h1.1,h1.2.1,h1.2.2.1,h1.2.2.2.1,h1.2.2.2.2.1,h1.2.2.2.2.2.1,fun b hb=>⟨h1.2.2.2.2.2.2 b hb,hext _ _ hb⟩⟩)
       ·exact h1.elim
     ·exact h1.elim)
 ·exact A3Y (by simpa using he) K A st hC h
def A8m (ops:Array Oper) (listed:Array Bool):Prop:=∀ j o,listed.getD j false=true→ops[j]?=some o→∀ e∈o.after,Region.binds .any e=true→listed.getD e.on false=true
theorem A8m.set {listed:Array Bool} (h:A8m ops listed) {i:Nat} (hr:i∈Region.ready .any ops listed):A8m ops (listed.setIfInBounds i true):=fun j o hj ho e he hb=>by
 by_cases hij:i=j
 ·subst hij
  obtain ⟨_,o',ho',hall⟩:=mem_ready.1 hr
  rw [ho] at ho'
  cases ho'
  exact getD_set_true (hall e he hb)
 ·rw [getD_set_ne false hij] at hj
  exact getD_set_true (h j o hj ho e he hb)
theorem A8m.waits {listed:Array Bool} (h:A8m ops listed) {i:Nat} (hi:listed.getD i false=false):∀ (n j:Nat),A1G ops i n j=true→listed.getD j false=false
 | 0,j,hw=>by simp [A1G] at hw
 | n+1,j,hw=>by
  unfold A1G at hw
  split at hw
  ·cases hw
  ·rename_i o ho
   obtain ⟨e,he,hb⟩:=Array.any_eq_true'.1 hw
   simp only [D7f,D8g,D7Z] at hb
   cases hl:listed.getD j false with
   | false=>rfl
   | true =>
    have h1:=h j o hl ho e he hb.1
    rcases hb.2 with h2 | h2
    ·rw [h2,hi] at h1;cases h1
    ·rw [h.waits hi n e.on h2] at h1;cases h1
theorem A8m.waitsN {listed:Array Bool} (h:A8m ops listed) {n:Nat} {eff:List Nat} {i j:Nat} (hi:listed.getD i false=false) (hw:waitsN n ops eff i j=true):listed.getD j false=false:=by
 unfold Go.Ab.waitsN at hw
 rw [D8g,D8N] at hw
 rcases hw with hw | ⟨m,_,hw⟩
 ·exact h.waits hi n j hw
 ·rw [D7f] at hw
  exact h.waits (h.waits hi n m hw.1) n j hw.2
theorem A8m.waitsC {listed:Array Bool} (h:A8m ops listed) {eff:List Nat} {i j:Nat} (hi:listed.getD i false=false) (hw:waitsC ops eff i j=true):listed.getD j false=false:=by
 unfold Go.Ab.waitsC at hw
 rw [D8g] at hw
 rcases hw with hw | hw
 ·exact h.waitsN hi hw
 ·exact h.waitsN hi hw
theorem A0b {listed:Array Bool} {i:Nat} (h:listed.getD i true=false):listed.getD i false=false:=by
 rcases D8E i listed.size with h' | h'
 ·simp [h'] at h ⊢;exact h
 ·simp [D9x h']
theorem B1I {eff ext:List Nat} {Q:KA} (hs:Region.noSelect ops=true):∀ (ord:List Nat) (listed:Array Bool) (A:List AV) (st:St),A8m ops listed→B2i ops eff ext ord listed=true→B1H P T M ops.toList eff ext ord A st Q →
  B5i P T M ops (fun j=>eff.contains j) Q ord.length listed A st
 | [],listed,A,st,hD,hO,h=>⟨by simpa [B2i] using hO,h⟩
 | i::ord,listed,A,st,hD,hO,h=>by
  unfold B2i at hO
  simp only [D7f] at hO
  obtain ⟨hO,hO'⟩:=hO
  unfold B1H at h
  rw [D7T] at h
  cases ho:ops[i]? with
  | none=>rw [ho] at hO;cases hO
  | some o =>
   rw [ho] at hO h
   simp only at hO h
   split at h
   ·exact h.elim
   rename_i b hb
   cases hc:eff.contains i with
   | true =>
    rw [hc] at hO h
    simp only [if_true,D7Z] at hO
    have hr:i∈Region.ready .any ops listed:=by rw [hO];simp
    have ih:=fun A' st' hh=>B1I (eff:=eff) (ext:=ext) (Q:=Q) hs ord (listed.setIfInBounds i true) A' st' (hD.set hr) hO' hh
    refine ⟨fun h0=>(by rw [hO] at h0;cases h0),fun j hj=>?_⟩
    rw [hO] at hj
    simp only [D7I] at hj
    subst hj
    unfold nOp
    simp only [ho,hc,if_true,hb]
    exact ⟨fun e=>S8 (fun v st' hk=>ih _ _ hk) (h.1 e),fun e=>ih _ _ (h.2 e)⟩
   | false =>
    rw [hc] at hO h
    simp only [D8Y,D9L,D7f] at hO
    obtain ⟨⟨hr,hf⟩,hcls⟩:=hO
    have hr':i∈Region.ready .any ops listed:=by simpa using hr
    have ih:=fun A' st' hh=>B1I (eff:=eff) (ext:=ext) (Q:=Q) hs ord (listed.setIfInBounds i true) A' st' (hD.set hr') hO' hh
    have hiun:=A0b (mem_ready.1 hr').1
    have hfree:=Region.free_spec ho hf
    -- one value
    suffices hmain:∃ (v:AV) (C:St→Prop),C st∧(∀ st',C st'→Yq P T M ops o v A st')∧(∀ j,j≠i→¬ waitsC ops (eff++ext) i j=true→listed.getD j true=false→B1p P T M ops (fun j=>eff.contains j) C j)∧B1H P T M ops.toList eff ext ord (K3 A o.dst v) st Q by
     obtain ⟨v,C,h1,h2,h3,h4⟩:=hmain
     exact B2d (eff:=fun j=>eff.contains j) ho (fun j=>waitsC ops (eff++ext) i j=true) (fun j hj=>A6M hj) listed h3 ord.length listed A st (fun k hk=>hk) hfree (fun j hj=>hD.waitsC hiun hj) hr' h1 h2 (ih _ _ h4)
    have htrue:∀ j,B1p P T M ops (fun j=>eff.contains j) (fun _=>True) j:=fun j K A st _ hh=>A0S (fun _ _ hk=>⟨hk,trivial⟩) hh
    cases b with
    | false=>exact ⟨.tuple [],fun _=>True,trivial,fun st' _=>.inr ⟨hb,rfl⟩,fun j _ _ _=>htrue j,h.2 rfl⟩
    | true =>
     obtain ⟨v,hv,hrest⟩:=h.1 rfl
     by_cases hp:A1A o.op=true
     ·refine ⟨v,fun _=>True,trivial,fun st' _=>.inl ⟨hb,?_⟩,fun j _ _ _=>htrue j,hrest⟩
      have hst:aOp P T M o A st fun v' s=>v'=v∧s=st:=by
       split at hv
       ·exact hv st (Ext.refl st)
       ·exact hv
      exact B2w hp hst
     ·have hcls':∀ j,eff.contains j=true→listed.getD j true=false→¬ waitsC ops (eff++ext) i j=true→ext.contains i=true∧∃ oj,ops[j]?=some oj∧C0s oj.op=true:=fun j hj hjl hjw=>by
       simp only [hp,D7R,D7s] at hcls
       have:=hcls j (by simpa using hj)
       simp only [hjl,D7R,D8g,D7f] at this
       rcases this with h5 | h5
       ·exact absurd h5 hjw
       ·refine ⟨h5.1,?_⟩
        cases hoj:ops[j]? with
        | none=>rw [hoj] at h5;simp at h5
        | some oj=>rw [hoj] at h5;exact ⟨oj,rfl,by simpa using h5.2⟩
      cases hx:ext.contains i with
      | true =>
       rw [hx] at hv
       refine ⟨v,Ext st,Ext.refl st,fun st' hst'=>.inl ⟨hb,hv st' hst'⟩,fun j hji hjw hjl=>?_,hrest⟩
       by_cases hej:eff.contains j=true
       ·obtain ⟨_,oj,hoj,hnew⟩:=hcls' j hej hjl hjw
        exact C1H hoj hnew
       ·exact A3Y (by simpa using hej)
      | false =>
       rw [hx] at hv
       refine ⟨v,fun s=>s=st,rfl,fun st' hst'=>.inl ⟨hb,by rw [hst'];exact hv⟩,fun j hji hjw hjl=>?_,hrest⟩
       by_cases hej:eff.contains j=true
       ·obtain ⟨h6,_⟩:=hcls' j hej hjl hjw
        rw [hx] at h6;cases h6
       ·exact A3Y (by simpa using hej)
theorem B8y {eff:List Nat} {i:Nat} {K:KA} {A:List AV} {st:St} (hc:eff.contains i=true) (h:B8x P T M ops.toList i K A st):nOp P T M ops (fun j=>eff.contains j) i K A st:=by
 unfold B8x at h
 rw [D7T] at h
 unfold nOp
 cases ho:ops[i]? with
 | none=>rw [ho] at h;exact h.elim
 | some o =>
  rw [ho] at h
  simp only [hc,if_true] at h ⊢
  split at h
  ·exact h.elim
  ·rename_i b hb
   exact h
theorem A4A {eff:List Nat} {Q:KA}:∀ (t:OT) (n:Nat) (listed:Array Bool) (A:List AV) (st:St),A8m ops listed→okT ops eff t n listed=true→A8y P T M ops.toList t A st Q →
  B5i P T M ops (fun j=>eff.contains j) Q n listed A st
 | .done,n,listed,A,st,hD,hO,h=>by
  unfold okT at hO
  simp only [D7f,D7Z] at hO
  obtain ⟨rfl,hO⟩:=hO
  exact ⟨by simpa using hO,h⟩
 | .gen i t,n,listed,A,st,hD,hO,h=>by
  unfold okT at hO
  simp only [D7f,D7Z,D9O] at hO
  obtain ⟨⟨⟨hc,hr⟩,hn⟩,hO'⟩:=hO
  obtain ⟨n,rfl⟩:∃ m,n=m+1:=⟨n - 1,by omega⟩
  have hr':i∈Region.ready .any ops listed:=by rw [hr];simp
  refine ⟨fun h0=>(by rw [hr] at h0;cases h0),fun j hj=>?_⟩
  rw [hr] at hj
  simp only [D7I] at hj
  subst hj
  exact A0S (fun A' st' hk=>A4A t n _ A' st' (hD.set hr') hO' hk) (B8y hc h)
 | .two i j t u,n,listed,A,st,hD,hO,h=>by
  unfold okT at hO
  simp only [D7f,D7Z,D9O] at hO
  obtain ⟨⟨⟨⟨⟨hc1,hc2⟩,hr⟩,hn⟩,hO1⟩,hO2⟩:=hO
  obtain ⟨n,rfl⟩:∃ m,n=m+1:=⟨n - 1,by omega⟩
  have hri:i∈Region.ready .any ops listed:=by rw [hr];simp
  have hrj:j∈Region.ready .any ops listed:=by rw [hr];simp
  obtain ⟨h1,h2⟩:=h
  refine ⟨fun h0=>(by rw [hr] at h0;cases h0),fun k hk=>?_⟩
  rw [hr] at hk
  simp only [D8A,D8D,or_false] at hk
  rcases hk with rfl | rfl
  ·exact A0S (fun A' st' hk=>A4A t n _ A' st' (hD.set hri) hO1 hk) (B8y hc1 h1)
  ·exact A0S (fun A' st' hk=>A4A u n _ A' st' (hD.set hrj) hO2 hk) (B8y hc2 h2)
 | .qui i t,n,listed,A,st,hD,hO,h=>by
  unfold okT at hO
  simp only [D7f,D9O] at hO
  obtain ⟨⟨hO,hn⟩,hO'⟩:=hO
  obtain ⟨n,rfl⟩:∃ m,n=m+1:=⟨n - 1,by omega⟩
  unfold A8y C6C at h
  rw [D7T] at h
  cases ho:ops[i]? with
  | none=>rw [ho] at hO;cases hO
  | some o =>
   rw [ho] at hO h
   simp only [D7f] at hO h
   obtain ⟨⟨hr,hf⟩,hcls⟩:=hO
   have hr':i∈Region.ready .any ops listed:=by simpa using hr
   have ih:=fun A' st' hh=>A4A (eff:=eff) (Q:=Q) t n (listed.setIfInBounds i true) A' st' (hD.set hr') hO' hh
   have hiun:=A0b (mem_ready.1 hr').1
   have hfree:=Region.free_spec ho hf
   split at h
   ·exact h.elim
   rename_i b hb
   suffices hmain:∃ (v:AV) (C:St→Prop),C st∧(∀ st',C st'→Yq P T M ops o v A st')∧(∀ j,j≠i→¬ waitsC ops eff i j=true→listed.getD j true=false→B1p P T M ops (fun j=>eff.contains j) C j)∧A8y P T M ops.toList t (K3 A o.dst v) st Q by
    obtain ⟨v,C,h1,h2,h3,h4⟩:=hmain
    exact B2d (eff:=fun j=>eff.contains j) ho (fun j=>waitsC ops eff i j=true) (fun j hj=>A6M hj) listed h3 n listed A st (fun k hk=>hk) hfree (fun j hj=>hD.waitsC hiun hj) hr' h1 h2 (ih _ _ h4)
   have htrue:∀ j,B1p P T M ops (fun j=>eff.contains j) (fun _=>True) j:=fun j K A st _ hh=>A0S (fun _ _ hk=>⟨hk,trivial⟩) hh
   cases b with
   | false=>exact ⟨.tuple [],fun _=>True,trivial,fun st' _=>.inr ⟨hb,rfl⟩,fun j _ _ _=>htrue j,h.2 rfl⟩
   | true =>
    obtain ⟨v,hv,hrest⟩:=h.1 rfl
    by_cases hp:A1A o.op=true
    ·exact ⟨v,fun _=>True,trivial,fun st' _=>.inl ⟨hb,B2w hp hv⟩,fun j _ _ _=>htrue j,hrest⟩
    ·refine ⟨v,fun s=>s=st,rfl,fun st' hst'=>.inl ⟨hb,by rw [hst'];exact hv⟩,fun j hji hjw hjl=>?_,hrest⟩
     by_cases hej:eff.contains j=true
     ·exfalso
      simp only [hp,D7R,D7s] at hcls
      have:=hcls j (by simpa using hej)
      simp only [hjl,D7R,D8g,D7Z] at this
      rcases this with h5 | h5
      ·exact hji h5
      ·exact hjw h5
     ·exact A3Y (by simpa using hej)
theorem D0L (hG:A7H P T M) (hm:P.follows .mixedOrders=true):C6q P (Dr P T M):=fun id ops K st0 w0 A a st w hA hS he h=>by
 obtain ⟨eff,ext,ord,h⟩:=h
 have hD:A8m ops (Array.replicate ops.toList.length false):=fun j o hj ho=>by
  simp [Array.getElem?_replicate] at hj
  split at hj<;>simp at hj
 have hany:B5i P T M ops (fun j=>eff.contains j) (K .normal) ops.toList.length (Array.replicate ops.toList.length false) A st:=by
  split at h
  ·obtain ⟨t,hok,hrun⟩:=h
   simp only [D7f] at hok
   exact A4A t _ (Array.replicate ops.toList.length false) A st hD (by simpa using hok.2) hrun
  ·obtain ⟨hok,hrun⟩:=h
   simp only [D7f,D7Z] at hok
   obtain ⟨⟨hns,hO⟩,hlen⟩:=hok
   have:=B1I (by simpa using hns) _ (Array.replicate ops.toList.length false) A st hD (by simpa using hO) hrun
   rw [hlen] at this;exact this
 refine wp_region_any hm ?_
 have hA':Q0 { w with drawn:=w.drawn+1 } st A a:=⟨hA.len,fun i v hv=>hA.at_ i v hv,hA.defers⟩
 have hS':H9 st { w with drawn:=w.drawn+1 }:=fun b x hx=>by
  obtain ⟨cs,h1⟩:=hS b x hx
  exact ⟨cs,⟨h1.heap,h1.size,h1.len,h1.one,h1.cell⟩⟩
 have he':Evo st0 w0 st { w with drawn:=w.drawn+1 }:=⟨he.os,he.tape,he.output,he.size,he.blk,he.szm⟩
 have:=B5M hG K st0 w0 ops.toList.length (Array.replicate ops.toList.length false) A a st { w with drawn:=w.drawn+1 } hA' hS' he' hany
 simpa using this
end
end Go.Ab
