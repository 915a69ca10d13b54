/- Part 8 of the proof: contracts -/
import Derived.Test.YtaapofnkmpiknaaGreatPt7
set_option linter.unusedVariables false
set_option linter.unusedSimpArgs false
namespace Go.Ab
open Go
def A1h (ops:List Oper) (o:Oper) (A:List AV):Option Bool :=
 match o.guard with
 | none=>some true
 | some (g,want)=>match ops[g]? with
  | none=>some false
  | some p=>match p.dst with
   | none=>some false
   | some d=>match A[d]? with
    | some (.bool b)=>some (b==want)
    | some (.tuple _)=>some false
    | some _=>none
    | none=>some false
theorem A8s {ops:Array Oper} {o:Oper} {A:List AV} {a:Act} {st:St} {w:World} (hA:Q0 w st A a) {b:Bool} (h:A1h ops.toList o A=some b):Region.wanted o (yielded ops a.tmps)=b:=by
 unfold A1h at h
 unfold Region.wanted
 split at h
 ·rename_i hg;rw [hg];cases h;rfl
 ·rename_i g want hg
  rw [hg]
  unfold yielded
  rw [D7T] at h
  split at h
  ·rename_i hp;cases h;simp [hp]
  ·rename_i p hp
   split at h
   ·rename_i hd;cases h;simp [hp,hd]
   ·rename_i d hd
    split at h
    ·rename_i c hc
     obtain ⟨u,hu1,hu2⟩:=hA.at_ d _ hc
     cases hu2
     cases h;simp [hp,hd,hu1]
    ·rename_i c hc
     obtain ⟨u,hu1,hu2⟩:=hA.at_ d _ hc
     cases hu2
     cases h;simp [hp,hd,hu1]
    ·cases h
    ·rename_i hn
     have hlen:=hA.len
     have:a.tmps[d]?=none:=by
      rw [List.getElem?_eq_none_iff] at hn
      exact D9x (by omega)
     cases h;simp [hp,hd,this]
abbrev KA:=List AV→St→Prop
def A6d (A:List AV) (st:St) (A':List AV) (st':St):Prop :=
 ∀ w a,Q0 w st A a→H9 st w→Q0 w st' A' a∧H9 st' w∧Evo st w st' w
theorem A6d.refl (A:List AV) (st:St):A6d A st A st:=fun w a h1 h2=>⟨h1,h2,Evo.refl _ _⟩
def A9p (P:Program) (T:H5) (M:J5) (ops:List Oper):List Oper→List AV→St→KA→Prop
 | [],A,st,k=>k A st
 | o::rest,A,st,k =>
  match A1h ops o A with
  | none=>False
  | some b=>(b=true→aOp P T M o A st (fun v st'=>A9p P T M ops rest (K3 A o.dst v) st' k))∧(b=false→A9p P T M ops rest (K3 A o.dst (.tuple [])) st k)
def B0J (K:Exit→KA) (st0:St) (w0:World) (e:Exit) (a:Act) (w:World):Prop:=∃ A st,K e A st∧Q0 w st A a∧H9 st w∧Evo st0 w0 st w
theorem B9C {P:Program} {T:H5} {M:J5} (hG:A7H P T M) (ops:Array Oper) (K:Exit→KA) (st0:St) (w0:World):∀ (l:List Oper) (A:List AV) (a:Act) (st:St) (w:World),Q0 w st A a→H9 st w→Evo st0 w0 st w →
  A9p P T M ops.toList l A st (fun A' st'=>K .normal A' st')→wpList P ops (B0J K st0 w0) l a w
 | [],A,a,st,w,hA,hS,he,h=>⟨A,st,h,hA,hS,he⟩
 | o::rest,A,a,st,w,hA,hS,he,h=>by
  unfold A9p at h
  split at h
  ·exact h.elim
  rename_i b hb
  have hw:=A8s hA hb
  unfold wpList
  rw [hw]
  cases b with
  | true =>
   rw [if_pos rfl]
   exact .inl (C5G hG hA hS (h.1 rfl) fun v c st' w' hk hv hS' he'=>B9C hG ops K st0 w0 rest _ _ st' w' ((hA.evo he').put o.dst hv) hS' (he.trans he') hk)
  | false =>
   rw [if_neg (by simp)]
   exact B9C hG ops K st0 w0 rest _ _ st w (hA.put o.dst (A4N _ _)) hS he (h.2 rfl)
theorem least {p:Nat→Prop} (h:∃ m,p m):∃ m,p m∧∀ n,p n→m≤n:=by
 obtain ⟨m,hm⟩:=h
 induction m using Nat.strongRecOn with
 | _ m ih =>
  by_cases hex:∃ n,n<m∧p n
  ·obtain ⟨n,hn,hp⟩:=hex
   exact ih n hn hp
  ·exact ⟨m,hm,fun n hn=>Nat.le_of_not_lt fun hlt=>hex ⟨n,hlt,hn⟩⟩
def B5Q (n:Nat) (keep:List Nat) (vs:List AV):List AV:=(keep.zip vs).foldl (fun A p=>A.set p.1 p.2) (List.replicate n AV.junk)
theorem B2U (n:Nat) (keep:List Nat) (vs:List AV):(B5Q n keep vs).length=n:=by
 unfold B5Q
 suffices h:∀ (l:List (Nat×AV)) (A:List AV),(l.foldl (fun A p=>A.set p.1 p.2) A).length=A.length by rw [h];simp
 intro l
 induction l with
 | nil=>intro A;rfl
 | cons p l ih=>intro A;simp only [D8o];rw [ih];simp
theorem B2V {w:World} {st:St} {A:List AV} {a:Act} (hA:Q0 w st A a) (keep:List Nat):Q0 w st (B5Q A.length keep (keep.map (fun i=>A.getD i AV.junk))) a:=by
 suffices h:∀ (ks:List Nat) (B:List AV),B.length=A.length→(∀ i v,B[i]?=some v→v=AV.junk∨A[i]?=some v) →
   ∀ i v,((ks.zip (ks.map (fun i=>A.getD i AV.junk))).foldl (fun B p=>B.set p.1 p.2) B)[i]?=some v→v=AV.junk∨A[i]?=some v by
  refine ⟨by rw [B2U];exact hA.len,fun i v hv=>?_,hA.defers⟩
  have hlt:i<a.tmps.size:=by
   have:=(D7w.1 hv).1
   rw [B2U,hA.len] at this;exact this
  rcases h keep (List.replicate A.length AV.junk) (by simp) (fun i v hv=>.inl (by
   have:=List.mem_of_getElem? hv
   exact (List.mem_replicate.1 this).2)) i v hv with rfl | hv'
  ·exact ⟨a.tmps[i],D7x hlt,.junk _⟩
  ·exact hA.at_ i v hv'
 intro ks
 induction ks with
 | nil=>intro B hl hB i v hv;exact hB i v hv
 | cons k ks ih =>
  intro B hl hB i v hv
  simp only [D8k,List.zip_cons_cons,D8o] at hv
  refine ih (B.set k (A.getD k .junk)) (by simp [hl]) (fun j u hu=>?_) i v hv
  rw [D8W] at hu
  split at hu
  ·rename_i hkj
   subst hkj
   split at hu
   ·rename_i hlt
    cases hu
    rw [hl] at hlt
    exact .inr (by rw [D7c,D7k hlt];rfl)
   ·cases hu
  ·exact hB j u hu
def A5T (k:KA):KA:=fun A st=>∃ A' st',A6d A st A' st'∧k A' st'
theorem B0J.seen {K:Exit→KA} {st0:St} {w0:World} {a:Act} {w:World} (h:B0J (fun e=>match e with | .normal=>A5T (K .normal) | e=>K e) st0 w0 .normal a w):B0J K st0 w0 .normal a w:=by
 obtain ⟨A,st,⟨A',st',hs,hk⟩,hA,hS,he⟩:=h
 obtain ⟨s1,s2,s3⟩:=hs w a hA hS
 exact ⟨A',st',hk,s1,s2,he.trans s3⟩
def W (P:Program) (T:H5) (M:J5) (Dr:List Oper→List AV→St→KA→Prop):Code→List AV→St→(Exit→KA)→Prop
 | .skip,A,st,K=>K .normal A st
 | .region _ ops draw,A,st,K=>match draw with
  | false=>A9p P T M ops.toList ops.toList A st (A5T (K .normal))
  | true=>Dr ops.toList A st (A5T (K .normal))
 | .seq x y,A,st,K=>W P T M Dr x A st fun e A' st'=>match e with
  | .normal=>W P T M Dr y A' st' K
  | e=>K e A' st'
 | .cond c x y,A,st,K=>match ev A c with
  | .bool b=>(b=true→W P T M Dr x A st K)∧(b=false→W P T M Dr y A st K)
  | .ubool=>W P T M Dr x A st K∧W P T M Dr y A st K
  | _=>False
 | .block id c,A,st,K=>W P T M Dr c A st fun e A' st'=>match e with
  | .exit j=>if j=id then K .normal A' st' else K (.exit j) A' st'
  | e=>K e A' st'
 | .loop c,A,st,K=>∃ (keep:List Nat) (I:Nat→KA),(∃ m,I m (keep.map (fun i=>A.getD i AV.junk)) st)∧∀ m vs st',I m vs st'→W P T M Dr c (B5Q A.length keep vs) st' fun e A'' st''=>match e with
  | .normal=>A''.length=A.length∧∃ m',m'<m∧I m' (keep.map (fun i=>A''.getD i AV.junk)) st''
  | e=>K e A'' st''
 | .exit id,A,st,K=>K (.exit id) A st
 | .ret,A,st,K=>K .ret A st
 | _,_,_,_=>False
def C6q (P:Program) (Dr:List Oper→List AV→St→KA→Prop):Prop :=
 ∀ (id:Nat) (ops:Array Oper) (K:Exit→KA) (st0:St) (w0:World) (A:List AV) (a:Act) (st:St) (w:World),Q0 w st A a→H9 st w→Evo st0 w0 st w →
  Dr ops.toList A st (fun A' st'=>K .normal A' st')→(Code.region id ops true).wp P (B0J K st0 w0) a w
theorem A3s {P:Program} {T:H5} {M:J5} {Dr:List Oper→List AV→St→KA→Prop} (hG:A7H P T M) (hD:C6q P Dr):∀ (c:Code) (K:Exit→KA) (st0:St) (w0:World) (A:List AV) (a:Act) (st:St) (w:World),Q0 w st A a→H9 st w→Evo st0 w0 st w →
  W P T M Dr c A st K→c.wp P (B0J K st0 w0) a w
 | .skip,K,st0,w0,A,a,st,w,hA,hS,he,h=>wp_skip ⟨A,st,h,hA,hS,he⟩
 | .region id ops draw,K,st0,w0,A,a,st,w,hA,hS,he,h=>by
  unfold W at h
  cases draw with
  | false =>
   refine wp_mono (wp_region_list (B9C hG ops (fun e=>match e with | .normal=>A5T (K .normal) | e=>K e) st0 w0 _ _ _ _ _ hA hS he h)) fun e a w hl=>?_
   cases e<;>first | exact hl | exact hl.seen
  | true =>
   refine wp_mono (hD id ops (fun e=>match e with | .normal=>A5T (K .normal) | e=>K e) st0 w0 A a st w hA hS he h) fun e a w hl=>?_
   cases e<;>first | exact hl | exact hl.seen
 | .seq x y,K,st0,w0,A,a,st,w,hA,hS,he,h=>by
  unfold W at h
  refine wp_seq (wp_mono (A3s hG hD x _ st0 w0 A a st w hA hS he h) fun e a' w' ⟨A',st',hk,hA',hS',he'⟩=>?_)
  cases e with
  | normal=>exact A3s hG hD y K st0 w0 A' a' st' w' hA' hS' he' hk
  | _=>exact ⟨A',st',hk,hA',hS',he'⟩
 | .cond c x y,K,st0,w0,A,a,st,w,hA,hS,he,h=>by
  unfold W at h
  split at h
  ·rename_i b hb
   have hr:=I2 hA c
   rw [hb] at hr
   generalize hcv:a.eval c=cv at hr
   cases hr
   refine wp_cond hcv ?_
   cases b with
   | true=>exact A3s hG hD x K st0 w0 A a st w hA hS he (h.1 rfl)
   | false=>exact A3s hG hD y K st0 w0 A a st w hA hS he (h.2 rfl)
  ·rename_i hb
   have hr:=I2 hA c
   rw [hb] at hr
   generalize hcv:a.eval c=cv at hr
   cases hr with
   | ubool b =>
    refine wp_cond hcv ?_
    cases b with
    | true=>exact A3s hG hD x K st0 w0 A a st w hA hS he h.1
    | false=>exact A3s hG hD y K st0 w0 A a st w hA hS he h.2
  ·exact h.elim
 | .block id c,K,st0,w0,A,a,st,w,hA,hS,he,h=>by
  unfold W at h
  refine wp_block (wp_mono (A3s hG hD c _ st0 w0 A a st w hA hS he h) fun e a' w' ⟨A',st',hk,hA',hS',he'⟩=>?_)
  cases e with
  | exit j =>
   simp only at hk
   show if j=id then B0J K st0 w0 .normal a' w' else B0J K st0 w0 (.exit j) a' w'
   by_cases hj:j=id
   ·rw [if_pos hj] at hk ⊢;exact ⟨A',st',hk,hA',hS',he'⟩
   ·rw [if_neg hj] at hk ⊢;exact ⟨A',st',hk,hA',hS',he'⟩
  | _=>exact ⟨A',st',hk,hA',hS',he'⟩
 | .loop c,K,st0,w0,A,a,st,w,hA,hS,he,h=>by
  unfold W at h
  obtain ⟨keep,I,⟨m0,h0⟩,hI⟩:=h
  let R:Nat→Act→World→Prop:=fun m a w=>∃ B st,B.length=A.length∧I m (keep.map (fun i=>B.getD i AV.junk)) st∧Q0 w st B a∧H9 st w∧Evo st0 w0 st w
  obtain ⟨μ,hμ⟩:∃ μ : Act→World→Nat,∀ a w,(∃ m,R m a w)→R (μ a w) a w∧∀ n,R n a w→μ a w≤n:=by
   have hex:∀ x:Act×World,∃ m,(∃ m,R m x.1 x.2)→R m x.1 x.2∧∀ n,R n x.1 x.2→m≤n:=fun x=>by
    by_cases h:∃ m,R m x.1 x.2
    ·obtain ⟨m,h1,h2⟩:=least h
     exact ⟨m,fun _=>⟨h1,h2⟩⟩
    ·exact ⟨0,fun h'=>absurd h' h⟩
   obtain ⟨f,hf⟩:=Classical.axiomOfChoice hex
   exact ⟨fun a w=>f (a,w),fun a w h=>hf (a,w) h⟩
  refine wp_loop (fun a w=>∃ m,R m a w) μ ⟨m0,A,st,rfl,h0,hA,hS,he⟩ fun a w hex=>?_
  obtain ⟨B,st',hBl,hi,hB,hS',he'⟩:=(hμ a w hex).1
  have hA':=B2V hB keep
  rw [hBl] at hA'
  refine wp_mono (A3s hG hD c _ st0 w0 _ a st' w hA' hS' he' (hI _ _ st' hi)) fun e a' w' ⟨A'',st'',hk,hA'',hS'',he''⟩=>?_
  cases e with
  | normal =>
   obtain ⟨hlen',m',hm',hi'⟩:=hk
   have hex':∃ m,R m a' w':=⟨m',A'',st'',hlen',hi',hA'',hS'',he''⟩
   exact ⟨hex',Nat.lt_of_le_of_lt ((hμ a' w' hex').2 m' ⟨A'',st'',hlen',hi',hA'',hS'',he''⟩) hm'⟩
  | _=>exact ⟨A'',st'',hk,hA'',hS'',he''⟩
 | .exit id,K,st0,w0,A,a,st,w,hA,hS,he,h=>wp_exit ⟨A,st,h,hA,hS,he⟩
 | .ret,K,st0,w0,A,a,st,w,hA,hS,he,h=>wp_ret ⟨A,st,h,hA,hS,he⟩
 | .rangeFunc _ _ _ _,K,st0,w0,A,a,st,w,hA,hS,he,h=>h.elim
 | .scope _,K,st0,w0,A,a,st,w,hA,hS,he,h=>h.elim
 | .label _,K,st0,w0,A,a,st,w,hA,hS,he,h=>h.elim
 | .goto _,K,st0,w0,A,a,st,w,hA,hS,he,h=>h.elim
 | .refuse _,K,st0,w0,A,a,st,w,hA,hS,he,h=>h.elim
def B6i (T:H5) (A:List AV) (st:St) (r:ResultVar) (k:AV→Prop):Prop :=
 match r with
 | .tmp t=>k (A.getD t .junk)
 | .cell t ty=>A3A T ty (A.getD t .junk) st (fun v _=>k v)
def B0j (T:H5) (A:List AV) (st:St):List ResultVar→(List AV→Prop)→Prop
 | [],k=>k []
 | r::rs,k=>B6i T A st r fun v=>B0j T A st rs fun vs=>k (v::vs)
def C7K (tmps:Array Value):ResultVar→Sem Value
 | .tmp t=>pure (tmps.getD t undef)
 | .cell p t=>do loadVar t (←asAddr (tmps.getD p undef))
theorem B9o (fn:Func) (tmps:Array Value):results fn tmps=(do
  let vs ←fn.results.mapM (C7K tmps)
  pure (if h:vs.size=1 then vs[0] else .tuple vs)):=by
 unfold results
 congr 1
def B0O (vs:List AV):AV:=match vs with | [v]=>v | vs=>.tuple vs
theorem C3A {P:Program} {T:H5} (hT:TOk P T) {w:World} {st:St} {A:List AV} {a:Act} (hA:Q0 w st A a) (hS:H9 st w) {r:ResultVar} {k:AV→Prop} (h:B6i T A st r k) :
  ∃ v c,k v∧K8 w st v c∧(C7K a.tmps r).run P w=.ok c w:=by
 cases r with
 | tmp t =>
  have:=I2 hA (.tmp t)
  exact ⟨_,_,h,this,rfl⟩
 | cell p t =>
  have hp:=I2 hA (.tmp p)
  simp only [B6i] at h
  simp only [ev,Act.eval] at hp
  unfold A3A at h
  split at h
  ·exact h.elim
  rename_i row hrow
  suffices hmain:∃ ad y u,a.tmps.getD p undef=.pointer (some ad)∧k y∧K8 w st y u∧(loadVar t ad).run P w=.ok u w by
   obtain ⟨ad,y,u,h1,h2,h3,h4⟩:=hmain
   refine ⟨y,u,h2,h3,?_⟩
   simp only [C7K,h1,asAddr,Sem.run_bind,Sem.run_pure,Result.andThen_ok,h4]
  generalize a.tmps.getD p undef=pv at hp
  generalize A.getD p .junk=pa at h hp
  cases hp with
  | fptr v' off ad g hr' hg' =>
   obtain ⟨y,u,hk,hy,hrun⟩:=Z1 hT hrow (w:=w) (st:=st) (a:=ad) (fun j y hy=>⟨g j,A4M (hr' j (D7w.1 hy).1),hg' j y hy⟩) h
   exact ⟨_,y,u,rfl,hk,hy,hrun⟩
  | optr e b i off =>
   simp only at h
   cases hb:st b with
   | none=>rw [hb] at h;exact h.elim
   | some bk =>
    rw [hb] at h
    obtain ⟨he,hi,h⟩:=h
    obtain ⟨cs,hok⟩:=hS b bk hb
    obtain ⟨y,u,hk,hy,hrun⟩:=Z1 hT hrow (w:=w) (st:=st) (a:=⟨b,i * e,none⟩) (o:=off) (fun j y hy=>by
     obtain ⟨u,h1,h2⟩:=hok.cell i j y hi hy
     refine ⟨u,?_,h2⟩
     rw [Addr.add_lit,cell_of_row w b _ cs bk.ty (0,0) hok.heap,he];exact h1) h
    rw [Addr.add_lit] at hrun
    exact ⟨_,y,u,rfl,hk,hy,hrun⟩
  | _=>exact h.elim
theorem B6j {P:Program} {T:H5} (hT:TOk P T) {w:World} {st:St} {A:List AV} {a:Act} (hA:Q0 w st A a) (hS:H9 st w):∀ (rs:List ResultVar) (k:List AV→Prop),B0j T A st rs k →
  ∃ vs cs,k vs∧vs.length=cs.length∧(∀ (j:Nat) y c,vs[j]?=some y→cs[j]?=some c→K8 w st y c) ∧
   (rs.mapM (C7K a.tmps)).run P w=.ok cs w
 | [],k,h=>⟨[],[],h,rfl,fun j y c hy=>by simp at hy,rfl⟩
 | r::rs,k,h=>by
  simp only [B0j] at h
  obtain ⟨v,c,hk,hv,hrun⟩:=C3A hT hA hS h
  obtain ⟨vs,cs,hk',hl,hr,hrun'⟩:=B6j hT hA hS rs _ hk
  refine ⟨v::vs,c::cs,hk',by simp [hl],fun j y d hy hd=>?_,?_⟩
  ·cases j with
   | zero=>simp at hy hd;subst hy;subst hd;exact hv
   | succ j=>exact hr j y d (by simpa using hy) (by simpa using hd)
  ·simp only [List.mapM_cons,Sem.run_bind]
   rw [hrun]
   simp only [Result.andThen_ok,hrun',Sem.run_pure]
def start (args:List AV) (n:Nat):List AV:=args++List.replicate (n - args.length) (.tuple [])
def D4t (T:H5) (fn:Func) (post:KK):Exit→KA:=fun e A st=>match e with
 | .normal=>B0j T A st fn.results.toList fun vs=>post (B0O vs) st
 | .ret=>B0j T A st fn.results.toList fun vs=>post (B0O vs) st
 | _=>False
theorem C8R {P:Program} {T:H5} {M:J5} {Dr:List Oper→List AV→St→KA→Prop} (hG:A7H P T M) (hD:C6q P Dr) {f:FuncId} {fn:Func} {c:Code} {args:List AV} {st:St} {post:KK}
  (hf : P.funcs[f]? = some fn) (hname : (fn.name == "runtime.NumGoroutine") = false) (hb : fn.body = some c) (h : W P T M Dr c (start args fn.ntmps) st (D4t T fn post)) : S P f args st post := by
 refine ⟨Go.Proofs.enters_of hf hname hb,fun cargs w hR hS=>?_⟩
 refine calls_of_wp hf hb (wp_mono (A3s hG hD c _ st w (start args fn.ntmps) _ st w ?_ hS (Evo.refl _ _) h) fun e a' w' ⟨A',st',hk,hA',hS',he'⟩=>?_)
 ·refine ⟨by simp [start,hR.1],fun i v hv=>?_,rfl⟩
  unfold start at hv
  rcases D8E i args.length with hi | hi
  ·rw [D7B hi] at hv
   have hi':i<cargs.size:=by rw [←hR.1];exact hi
   exact ⟨cargs[i],by rw [D9U hi'];exact D7x hi',hR.2 i v _ hv (D7x hi')⟩
  ·rw [D7A hi] at hv
   have hlt:=(D7w.1 hv).1
   simp only [D8i] at hlt
   simp only [D9t,hlt,if_true,D9n] at hv
   subst hv
   refine ⟨undef,?_,A4N _ _⟩
   rw [Array.getElem?_append_right (by rw [←hR.1];exact hi),←hR.1]
   rw [Array.getElem?_replicate,if_pos hlt]
 ·have hres:(e=.normal∨e=.ret)→B0j T A' st' fn.results.toList (fun vs=>post (B0O vs) st')→a'.defers=[]∧∃ v,(results fn a'.tmps).run P w'=.ok v w'∧∃ v' c st'',post v' st''∧Ending.returned v=.returned c∧K8 w' st'' v' c∧H9 st'' w'∧Evo st w st'' w':=by
   intro _ hr
   obtain ⟨vs,cs,hk',hl,hrep,hrun⟩:=B6j hG.tab hA' hS' _ _ hr
   refine ⟨hA'.defers,if h:cs.toArray.size=1 then cs.toArray[0] else .tuple cs.toArray,?_,B0O vs,_,st',hk',rfl,?_,hS',he'⟩
   ·rw [B9o]
    simp only [Array.mapM_eq_mapM_toList,Sem.run_bind,Sem.run_map]
    rw [hrun]
    rfl
   ·by_cases h1:cs.length=1
    ·obtain ⟨c0,rfl⟩:=List.length_eq_one_iff.1 h1
     obtain ⟨v0,rfl⟩:=List.length_eq_one_iff.1 (hl.trans h1)
     exact hrep 0 v0 c0 rfl rfl
    ·rw [dif_neg (by simpa using h1)]
     have:B0O vs=.tuple vs:=by
      unfold B0O
      split
      ·exact absurd hl.symm h1
      ·rfl
     rw [this]
     exact .tuple _ _ (by simpa using hl) (fun j y c hy hc=>hrep j y c hy (by simpa using hc))
  cases e with
  | normal=>exact hres (.inl rfl) hk
  | ret=>exact hres (.inr rfl) hk
  | _=>exact hk.elim
end Go.Ab
