/- Part 8 of the proof: contracts of the functions that the law reaches -/
import Derived.Test.YtaapofnkmpiknaaGreatPw7
set_option linter.unusedVariables false
set_option linter.unusedSimpArgs false
namespace Go.Ab
open Go
def R5 (ops:List Oper) (o:Oper) (A:List AV):Option Bool :=
 match o.guard with
 | none=>some true
 | some (g,want)=>match ops[g]? with
  | none=>some false
  | some p=>match p.dst with
   | none=>some false
   | some d=>match A[d]? with
    | some (.bool b)=>some (b==want)
    | some (.tuple _)=>some false
    | some _=>none
    | none=>some false
theorem A4x {ops:Array Oper} {o:Oper} {A:List AV} {a:Act} {st:St} {w:World} (hA:H6 w st A a) {b:Bool} (h:R5 ops.toList o A=some b):Region.wanted o (yielded ops a.tmps)=b:=by
 unfold R5 at h
 unfold Region.wanted
 split at h
 ·rename_i hg;rw [hg];cases h;rfl
 ·rename_i g want hg
  rw [hg]
  unfold yielded
  rw [C9J] at h
  split at h
  ·rename_i hp;cases h;simp [hp]
  ·rename_i p hp
   split at h
   ·rename_i hd;cases h;simp [hp,hd]
   ·rename_i d hd
    split at h
    ·rename_i c hc
     obtain ⟨u,hu1,hu2⟩:=hA.at_ d _ hc
     cases hu2
     cases h;simp [hp,hd,hu1]
    ·rename_i c hc
     obtain ⟨u,hu1,hu2⟩:=hA.at_ d _ hc
     cases hu2
     cases h;simp [hp,hd,hu1]
    ·cases h
    ·rename_i hn
     have hlen:=hA.len
     have:a.tmps[d]?=none:=by
      rw [List.getElem?_eq_none_iff] at hn
      exact D1k (by omega)
     cases h;simp [hp,hd,this]
abbrev KA:=List AV→St→Prop
def A2O (A:List AV) (st:St) (A':List AV) (st':St):Prop :=
 ∀ w a,H6 w st A a→E0 st w→H6 w st' A' a∧E0 st' w∧P6 st w st' w
theorem A2O.refl (A:List AV) (st:St):A2O A st A st:=fun w a h1 h2=>⟨h1,h2,P6.refl _ _⟩
def A5f (P:Program) (T:C7) (M:E7) (ops:List Oper):List Oper→List AV→St→KA→Prop
 | [],A,st,k=>k A st
 | o::rest,A,st,k =>
  match R5 ops o A with
  | none=>False
  | some b=>(b=true→aOp P T M o A st (fun v st'=>A5f P T M ops rest (F3 A o.dst v) st' k))∧(b=false→A5f P T M ops rest (F3 A o.dst (.tuple [])) st k)
def A6j (K:Exit→KA) (st0:St) (w0:World) (e:Exit) (a:Act) (w:World):Prop:=∃ A st,K e A st∧H6 w st A a∧E0 st w∧P6 st0 w0 st w
theorem B3a {P:Program} {T:C7} {M:E7} (hG:A3M P T M) (ops:Array Oper) (K:Exit→KA) (st0:St) (w0:World):∀ (l:List Oper) (A:List AV) (a:Act) (st:St) (w:World),H6 w st A a→E0 st w→P6 st0 w0 st w →
  A5f P T M ops.toList l A st (fun A' st'=>K .normal A' st')→wpList P ops (A6j K st0 w0) l a w
 | [],A,a,st,w,hA,hS,he,h=>⟨A,st,h,hA,hS,he⟩
 | o::rest,A,a,st,w,hA,hS,he,h=>by
  unfold A5f at h
  split at h
  ·exact h.elim
  rename_i b hb
  have hw:=A4x hA hb
  unfold wpList
  rw [hw]
  cases b with
  | true =>
   rw [if_pos rfl]
   exact .inl (B8l hG hA hS (h.1 rfl) fun v c st' w' hk hv hS' he'=>B3a hG ops K st0 w0 rest _ _ st' w' ((hA.evo he').put o.dst hv) hS' (he.trans he') hk)
  | false =>
   rw [if_neg (by simp)]
   exact B3a hG ops K st0 w0 rest _ _ st w (hA.put o.dst (A1x _ _)) hS he (h.2 rfl)
theorem least {p:Nat→Prop} (h:∃ m,p m):∃ m,p m∧∀ n,p n→m≤n:=by
 obtain ⟨m,hm⟩:=h
 induction m using Nat.strongRecOn with
 | _ m ih =>
  by_cases hex:∃ n,n<m∧p n
  ·obtain ⟨n,hn,hp⟩:=hex
   exact ih n hn hp
  ·exact ⟨m,hm,fun n hn=>Nat.le_of_not_lt fun hlt=>hex ⟨n,hlt,hn⟩⟩
def B0r (n:Nat) (keep:List Nat) (vs:List AV):List AV:=(keep.zip vs).foldl (fun A p=>A.set p.1 p.2) (List.replicate n AV.junk)
theorem A7S (n:Nat) (keep:List Nat) (vs:List AV):(B0r n keep vs).length=n:=by
 unfold B0r
 suffices h:∀ (l:List (Nat×AV)) (A:List AV),(l.foldl (fun A p=>A.set p.1 p.2) A).length=A.length by rw [h];simp
 intro l
 induction l with
 | nil=>intro A;rfl
 | cons p l ih=>intro A;simp only [D0E];rw [ih];simp
theorem A7T {w:World} {st:St} {A:List AV} {a:Act} (hA:H6 w st A a) (keep:List Nat):H6 w st (B0r A.length keep (keep.map (fun i=>A.getD i AV.junk))) a:=by
 suffices h:∀ (ks:List Nat) (B:List AV),B.length=A.length→(∀ i v,B[i]?=some v→v=AV.junk∨A[i]?=some v) →
   ∀ i v,((ks.zip (ks.map (fun i=>A.getD i AV.junk))).foldl (fun B p=>B.set p.1 p.2) B)[i]?=some v→v=AV.junk∨A[i]?=some v by
  refine ⟨by rw [A7S];exact hA.len,fun i v hv=>?_,hA.defers⟩
  have hlt:i<a.tmps.size:=by
   have:=(C9t.1 hv).1
   rw [A7S,hA.len] at this;exact this
  rcases h keep (List.replicate A.length AV.junk) (by simp) (fun i v hv=>.inl (by
   have:=List.mem_of_getElem? hv
   exact (List.mem_replicate.1 this).2)) i v hv with rfl | hv'
  ·exact ⟨a.tmps[i],C9r hlt,.junk _⟩
  ·exact hA.at_ i v hv'
 intro ks
 induction ks with
 | nil=>intro B hl hB i v hv;exact hB i v hv
 | cons k ks ih =>
  intro B hl hB i v hv
  simp only [D0j,List.zip_cons_cons,D0E] at hv
  refine ih (B.set k (A.getD k .junk)) (by simp [hl]) (fun j u hu=>?_) i v hv
  rw [D0O] at hu
  split at hu
  ·rename_i hkj
   subst hkj
   split at hu
   ·rename_i hlt
    cases hu
    rw [hl] at hlt
    exact .inr (by rw [C9i,C9p hlt];rfl)
   ·cases hu
  ·exact hB j u hu
def A2B (k:KA):KA:=fun A st=>∃ A' st',A2O A st A' st'∧k A' st'
theorem A6j.seen {K:Exit→KA} {st0:St} {w0:World} {a:Act} {w:World} (h:A6j (fun e=>match e with | .normal=>A2B (K .normal) | e=>K e) st0 w0 .normal a w):A6j K st0 w0 .normal a w:=by
 obtain ⟨A,st,⟨A',st',hs,hk⟩,hA,hS,he⟩:=h
 obtain ⟨s1,s2,s3⟩:=hs w a hA hS
 exact ⟨A',st',hk,s1,s2,he.trans s3⟩
def W (P:Program) (T:C7) (M:E7) (Dr:List Oper→List AV→St→KA→Prop):Code→List AV→St→(Exit→KA)→Prop
 | .skip,A,st,K=>K .normal A st
 | .region _ ops draw,A,st,K=>match draw with
  | false=>A5f P T M ops.toList ops.toList A st (A2B (K .normal))
  | true=>Dr ops.toList A st (A2B (K .normal))
 | .seq x y,A,st,K=>W P T M Dr x A st fun e A' st'=>match e with
  | .normal=>W P T M Dr y A' st' K
  | e=>K e A' st'
 | .cond c x y,A,st,K=>match ev A c with
  | .bool b=>(b=true→W P T M Dr x A st K)∧(b=false→W P T M Dr y A st K)
  | .ubool=>W P T M Dr x A st K∧W P T M Dr y A st K
  | _=>False
 | .block id c,A,st,K=>W P T M Dr c A st fun e A' st'=>match e with
  | .exit j=>if j=id then K .normal A' st' else K (.exit j) A' st'
  | e=>K e A' st'
 | .loop c,A,st,K=>∃ (keep:List Nat) (I:Nat→KA),(∃ m,I m (keep.map (fun i=>A.getD i AV.junk)) st)∧∀ m vs st',I m vs st'→W P T M Dr c (B0r A.length keep vs) st' fun e A'' st''=>match e with
  | .normal=>A''.length=A.length∧∃ m',m'<m∧I m' (keep.map (fun i=>A''.getD i AV.junk)) st''
  | e=>K e A'' st''
 | .exit id,A,st,K=>K (.exit id) A st
 | .ret,A,st,K=>K .ret A st
 | _,_,_,_=>False
def B8P (P:Program) (Dr:List Oper→List AV→St→KA→Prop):Prop :=
 ∀ (id:Nat) (ops:Array Oper) (K:Exit→KA) (st0:St) (w0:World) (A:List AV) (a:Act) (st:St) (w:World),H6 w st A a→E0 st w→P6 st0 w0 st w →
  Dr ops.toList A st (fun A' st'=>K .normal A' st')→(Code.region id ops true).wp P (A6j K st0 w0) a w
theorem A0c {P:Program} {T:C7} {M:E7} {Dr:List Oper→List AV→St→KA→Prop} (hG:A3M P T M) (hD:B8P P Dr):∀ (c:Code) (K:Exit→KA) (st0:St) (w0:World) (A:List AV) (a:Act) (st:St) (w:World),H6 w st A a→E0 st w→P6 st0 w0 st w →
  W P T M Dr c A st K→c.wp P (A6j K st0 w0) a w
 | .skip,K,st0,w0,A,a,st,w,hA,hS,he,h=>wp_skip ⟨A,st,h,hA,hS,he⟩
 | .region id ops draw,K,st0,w0,A,a,st,w,hA,hS,he,h=>by
  unfold W at h
  cases draw with
  | false =>
   refine wp_mono (wp_region_list (B3a hG ops (fun e=>match e with | .normal=>A2B (K .normal) | e=>K e) st0 w0 _ _ _ _ _ hA hS he h)) fun e a w hl=>?_
   cases e<;>first | exact hl | exact hl.seen
  | true =>
   refine wp_mono (hD id ops (fun e=>match e with | .normal=>A2B (K .normal) | e=>K e) st0 w0 A a st w hA hS he h) fun e a w hl=>?_
   cases e<;>first | exact hl | exact hl.seen
 | .seq x y,K,st0,w0,A,a,st,w,hA,hS,he,h=>by
  unfold W at h
  refine wp_seq (wp_mono (A0c hG hD x _ st0 w0 A a st w hA hS he h) fun e a' w' ⟨A',st',hk,hA',hS',he'⟩=>?_)
  cases e with
  | normal=>exact A0c hG hD y K st0 w0 A' a' st' w' hA' hS' he' hk
  | _=>exact ⟨A',st',hk,hA',hS',he'⟩
 | .cond c x y,K,st0,w0,A,a,st,w,hA,hS,he,h=>by
  unfold W at h
  split at h
  ·rename_i b hb
   have hr:=D7 hA c
   rw [hb] at hr
   generalize hcv:a.eval c=cv at hr
   cases hr
   refine wp_cond hcv ?_
   cases b with
   | true=>exact A0c hG hD x K st0 w0 A a st w hA hS he (h.1 rfl)
   | false=>exact A0c hG hD y K st0 w0 A a st w hA hS he (h.2 rfl)
  ·rename_i hb
   have hr:=D7 hA c
   rw [hb] at hr
   generalize hcv:a.eval c=cv at hr
   cases hr with
   | ubool b =>
    refine wp_cond hcv ?_
    cases b with
    | true=>exact A0c hG hD x K st0 w0 A a st w hA hS he h.1
    | false=>exact A0c hG hD y K st0 w0 A a st w hA hS he h.2
  ·exact h.elim
 | .block id c,K,st0,w0,A,a,st,w,hA,hS,he,h=>by
  unfold W at h
  refine wp_block (wp_mono (A0c hG hD c _ st0 w0 A a st w hA hS he h) fun e a' w' ⟨A',st',hk,hA',hS',he'⟩=>?_)
  cases e with
  | exit j =>
   simp only at hk
   show if j=id then A6j K st0 w0 .normal a' w' else A6j K st0 w0 (.exit j) a' w'
   by_cases hj:j=id
   ·rw [if_pos hj] at hk ⊢;exact ⟨A',st',hk,hA',hS',he'⟩
   ·rw [if_neg hj] at hk ⊢;exact ⟨A',st',hk,hA',hS',he'⟩
  | _=>exact ⟨A',st',hk,hA',hS',he'⟩
 | .loop c,K,st0,w0,A,a,st,w,hA,hS,he,h=>by
  unfold W at h
  obtain ⟨keep,I,⟨m0,h0⟩,hI⟩:=h
  let R:Nat→Act→World→Prop:=fun m a w=>∃ B st,B.length=A.length∧I m (keep.map (fun i=>B.getD i AV.junk)) st∧H6 w st B a∧E0 st w∧P6 st0 w0 st w
  obtain ⟨μ,hμ⟩:∃ μ : Act→World→Nat,∀ a w,(∃ m,R m a w)→R (μ a w) a w∧∀ n,R n a w→μ a w≤n:=by
   have hex:∀ x:Act×World,∃ m,(∃ m,R m x.1 x.2)→R m x.1 x.2∧∀ n,R n x.1 x.2→m≤n:=fun x=>by
    by_cases h:∃ m,R m x.1 x.2
    ·obtain ⟨m,h1,h2⟩:=least h
     exact ⟨m,fun _=>⟨h1,h2⟩⟩
    ·exact ⟨0,fun h'=>absurd h' h⟩
   obtain ⟨f,hf⟩:=Classical.axiomOfChoice hex
   exact ⟨fun a w=>f (a,w),fun a w h=>hf (a,w) h⟩
  refine wp_loop (fun a w=>∃ m,R m a w) μ ⟨m0,A,st,rfl,h0,hA,hS,he⟩ fun a w hex=>?_
  obtain ⟨B,st',hBl,hi,hB,hS',he'⟩:=(hμ a w hex).1
  have hA':=A7T hB keep
  rw [hBl] at hA'
  refine wp_mono (A0c hG hD c _ st0 w0 _ a st' w hA' hS' he' (hI _ _ st' hi)) fun e a' w' ⟨A'',st'',hk,hA'',hS'',he''⟩=>?_
  cases e with
  | normal =>
   obtain ⟨hlen',m',hm',hi'⟩:=hk
   have hex':∃ m,R m a' w':=⟨m',A'',st'',hlen',hi',hA'',hS'',he''⟩
   exact ⟨hex',Nat.lt_of_le_of_lt ((hμ a' w' hex').2 m' ⟨A'',st'',hlen',hi',hA'',hS'',he''⟩) hm'⟩
  | _=>exact ⟨A'',st'',hk,hA'',hS'',he''⟩
 | .exit id,K,st0,w0,A,a,st,w,hA,hS,he,h=>wp_exit ⟨A,st,h,hA,hS,he⟩
 | .ret,K,st0,w0,A,a,st,w,hA,hS,he,h=>wp_ret ⟨A,st,h,hA,hS,he⟩
 | .rangeFunc _ _ _ _,K,st0,w0,A,a,st,w,hA,hS,he,h=>h.elim
 | .scope _,K,st0,w0,A,a,st,w,hA,hS,he,h=>h.elim
 | .label _,K,st0,w0,A,a,st,w,hA,hS,he,h=>h.elim
 | .goto _,K,st0,w0,A,a,st,w,hA,hS,he,h=>h.elim
 | .refuse _,K,st0,w0,A,a,st,w,hA,hS,he,h=>h.elim
def B0K (T:C7) (A:List AV) (st:St) (r:ResultVar) (k:AV→Prop):Prop :=
 match r with
 | .tmp t=>k (A.getD t .junk)
 | .cell t ty=>A0n T ty (A.getD t .junk) st (fun v _=>k v)
def A5P (T:C7) (A:List AV) (st:St):List ResultVar→(List AV→Prop)→Prop
 | [],k=>k []
 | r::rs,k=>B0K T A st r fun v=>A5P T A st rs fun vs=>k (v::vs)
def B9R (tmps:Array Value):ResultVar→Sem Value
 | .tmp t=>pure (tmps.getD t undef)
 | .cell p t=>do loadVar t (←asAddr (tmps.getD p undef))
theorem B2S (fn:Func) (tmps:Array Value):results fn tmps=(do
  let vs ←fn.results.mapM (B9R tmps)
  pure (if h:vs.size=1 then vs[0] else .tuple vs)):=by
 unfold results
 congr 1
def A7u (vs:List AV):AV:=match vs with | [v]=>v | vs=>.tuple vs
theorem B6A {P:Program} {T:C7} (hT:Q6 P T) {w:World} {st:St} {A:List AV} {a:Act} (hA:H6 w st A a) (hS:E0 st w) {r:ResultVar} {k:AV→Prop} (h:B0K T A st r k) :
  ∃ v c,k v∧G5 w st v c∧(B9R a.tmps r).run P w=.ok c w:=by
 cases r with
 | tmp t =>
  have:=D7 hA (.tmp t)
  exact ⟨_,_,h,this,rfl⟩
 | cell p t =>
  have hp:=D7 hA (.tmp p)
  simp only [B0K] at h
  simp only [ev,Act.eval] at hp
  unfold A0n at h
  split at h
  ·exact h.elim
  rename_i row hrow
  suffices hmain:∃ ad y u,a.tmps.getD p undef=.pointer (some ad)∧k y∧G5 w st y u∧(loadVar t ad).run P w=.ok u w by
   obtain ⟨ad,y,u,h1,h2,h3,h4⟩:=hmain
   refine ⟨y,u,h2,h3,?_⟩
   simp only [B9R,h1,asAddr,Sem.run_bind,Sem.run_pure,Result.andThen_ok,h4]
  generalize a.tmps.getD p undef=pv at hp
  generalize A.getD p .junk=pa at h hp
  cases hp with
  | fptr v' off ad g hr' hg' =>
   obtain ⟨y,u,hk,hy,hrun⟩:=N4 hT hrow (w:=w) (st:=st) (a:=ad) (fun j y hy=>⟨g j,A1w (hr' j (C9t.1 hy).1),hg' j y hy⟩) h
   exact ⟨_,y,u,rfl,hk,hy,hrun⟩
  | optr e b i off =>
   simp only at h
   cases hb:st b with
   | none=>rw [hb] at h;exact h.elim
   | some bk =>
    rw [hb] at h
    obtain ⟨he,hi,h⟩:=h
    obtain ⟨cs,hok⟩:=hS b bk hb
    obtain ⟨y,u,hk,hy,hrun⟩:=N4 hT hrow (w:=w) (st:=st) (a:=⟨b,i * e,none⟩) (o:=off) (fun j y hy=>by
     obtain ⟨u,h1,h2⟩:=hok.cell i j y hi hy
     refine ⟨u,?_,h2⟩
     rw [Addr.add_lit,cell_of_row w b _ cs bk.ty (0,0) hok.heap,he];exact h1) h
    rw [Addr.add_lit] at hrun
    exact ⟨_,y,u,rfl,hk,hy,hrun⟩
  | _=>exact h.elim
theorem B0L {P:Program} {T:C7} (hT:Q6 P T) {w:World} {st:St} {A:List AV} {a:Act} (hA:H6 w st A a) (hS:E0 st w):∀ (rs:List ResultVar) (k:List AV→Prop),A5P T A st rs k →
  ∃ vs cs,k vs∧vs.length=cs.length∧(∀ (j:Nat) y c,vs[j]?=some y→cs[j]?=some c→G5 w st y c) ∧
   (rs.mapM (B9R a.tmps)).run P w=.ok cs w
 | [],k,h=>⟨[],[],h,rfl,fun j y c hy=>by simp at hy,rfl⟩
 | r::rs,k,h=>by
  simp only [A5P] at h
  obtain ⟨v,c,hk,hv,hrun⟩:=B6A hT hA hS h
  obtain ⟨vs,cs,hk',hl,hr,hrun'⟩:=B0L hT hA hS rs _ hk
  refine ⟨v::vs,c::cs,hk',by simp [hl],fun j y d hy hd=>?_,?_⟩
  ·cases j with
   | zero=>simp at hy hd;subst hy;subst hd;exact hv
   | succ j=>exact hr j y d (by simpa using hy) (by simpa using hd)
  ·simp only [List.mapM_cons,Sem.run_bind]
   rw [hrun]
   simp only [Result.andThen_ok,hrun',Sem.run_pure]
def start (args:List AV) (n:Nat):List AV:=args++List.replicate (n - args.length) (.tuple [])
def C6p (T:C7) (fn:Func) (post:KK):Exit→KA:=fun e A st=>match e with
 | .normal=>A5P T A st fn.results.toList fun vs=>post (A7u vs) st
 | .ret=>A5P T A st fn.results.toList fun vs=>post (A7u vs) st
 | _=>False
theorem C0O {P:Program} {T:C7} {M:E7} {Dr:List Oper→List AV→St→KA→Prop} (hG:A3M P T M) (hD:B8P P Dr) {f:FuncId} {fn:Func} {c:Code} {args:List AV} {st:St} {post:KK}
  (hf : P.funcs[f]? = some fn) (hname : (fn.name == "runtime.NumGoroutine") = false) (hb : fn.body = some c) (h : W P T M Dr c (start args fn.ntmps) st (C6p T fn post)) : S P f args st post := by
 refine ⟨Go.Proofs.enters_of hf hname hb,fun cargs w hR hS=>?_⟩
 refine calls_of_wp hf hb (wp_mono (A0c hG hD c _ st w (start args fn.ntmps) _ st w ?_ hS (P6.refl _ _) h) fun e a' w' ⟨A',st',hk,hA',hS',he'⟩=>?_)
 ·refine ⟨by simp [start,hR.1],fun i v hv=>?_,rfl⟩
  unfold start at hv
  rcases D0D i args.length with hi | hi
  ·rw [C9z hi] at hv
   have hi':i<cargs.size:=by rw [←hR.1];exact hi
   exact ⟨cargs[i],by rw [D1v hi'];exact C9r hi',hR.2 i v _ hv (C9r hi')⟩
  ·rw [C9B hi] at hv
   have hlt:=(C9t.1 hv).1
   simp only [D0i] at hlt
   simp only [D1I,hlt,if_true,D0Y] at hv
   subst hv
   refine ⟨undef,?_,A1x _ _⟩
   rw [Array.getElem?_append_right (by rw [←hR.1];exact hi),←hR.1]
   rw [Array.getElem?_replicate,if_pos hlt]
 ·have hres:(e=.normal∨e=.ret)→A5P T A' st' fn.results.toList (fun vs=>post (A7u vs) st')→a'.defers=[]∧∃ v,(results fn a'.tmps).run P w'=.ok v w'∧∃ v' c st'',post v' st''∧Ending.returned v=.returned c∧G5 w' st'' v' c∧E0 st'' w'∧P6 st w st'' w':=by
   intro _ hr
   obtain ⟨vs,cs,hk',hl,hrep,hrun⟩:=B0L hG.tab hA' hS' _ _ hr
   refine ⟨hA'.defers,if h:cs.toArray.size=1 then cs.toArray[0] else .tuple cs.toArray,?_,A7u vs,_,st',hk',rfl,?_,hS',he'⟩
   ·rw [B2S]
    simp only [Array.mapM_eq_mapM_toList,Sem.run_bind,Sem.run_map]
    rw [hrun]
    rfl
   ·by_cases h1:cs.length=1
    ·obtain ⟨c0,rfl⟩:=List.length_eq_one_iff.1 h1
     obtain ⟨v0,rfl⟩:=List.length_eq_one_iff.1 (hl.trans h1)
     exact hrep 0 v0 c0 rfl rfl
    ·rw [dif_neg (by simpa using h1)]
     have:A7u vs=.tuple vs:=by
      unfold A7u
      split
      ·exact absurd hl.symm h1
      ·rfl
     rw [this]
     exact .tuple _ _ (by simpa using hl) (fun j y c hy hc=>hrep j y c hy (by simpa using hc))
  cases e with
  | normal=>exact hres (.inl rfl) hk
  | ret=>exact hres (.inr rfl) hk
  | _=>exact hk.elim
end Go.Ab
