/- Part 7 of the proof: contracts -/
import Derived.Test.YtaapofnkmpiknaaGreatPt6
import Derived.Shelf.Abstract
set_option linter.unusedVariables false
set_option linter.unusedSimpArgs false
namespace Go.Ab
open Go
def A7s (w:World) (st:St) (vs:List AV) (cs:Array Value):Prop:=vs.length=cs.size∧∀ (j:Nat) y c,vs[j]?=some y→cs[j]?=some c→K8 w st y c
theorem A7s.evo {st st':St} {w w':World} {vs:List AV} {cs:Array Value} (h:A7s w st vs cs) (he:Evo st w st' w'):A7s w' st' vs cs:=⟨h.1,fun j y c hy hc=>he.rep (h.2 j y c hy hc)⟩
def Ent (P:Program) (f:FuncId):Prop:=∀ (args:Array Value) (w:World),(callFunc f args).run P w=.ok (.enter f args) w
def S (P:Program) (f:FuncId) (args:List AV) (st:St) (post:KK):Prop :=
 Ent P f∧∀ (cargs:Array Value) (w:World),A7s w st args cargs→H9 st w →
  Calls P f cargs w fun e w'=>∃ v c st',post v st'∧e=.returned c∧K8 w' st' v c∧H9 st' w'∧Evo st w st' w'
theorem S.mono {P:Program} {f:FuncId} {args:List AV} {st:St} {post post':KK} (h:S P f args st post) (hp:∀ v st',post v st'→post' v st'):S P f args st post' :=
 ⟨h.1,fun cargs w hr hs=>(h.2 cargs w hr hs).mono fun e w' ⟨v,c,st',h1,h2⟩=>⟨v,c,st',hp _ _ h1,h2⟩⟩
def A7 (vs:List AV) (st:St) (vs':List AV) (st':St):Prop :=
 ∀ w cs,H9 st w→A7s w st vs cs→H9 st' w∧A7s w st' vs' cs∧Evo st w st' w
theorem A7.refl (vs:List AV) (st:St):A7 vs st vs st:=fun w cs hS hR=>⟨hS,hR,Evo.refl _ _⟩
theorem A7.trans {a b c:List AV} {s t u:St} (h:A7 a s b t) (k:A7 b t c u):A7 a s c u:=fun w cs hS hR=>by
 obtain ⟨h1,h2,h3⟩:=h w cs hS hR
 obtain ⟨k1,k2,k3⟩:=k w cs h1 h2
 exact ⟨k1,k2,h3.trans k3⟩
theorem S.pre {P:Program} {f:FuncId} {args args':List AV} {st st':St} {post:KK} (h:S P f args' st' post) (hs:A7 args st args' st'):S P f args st post :=
 ⟨h.1,fun cargs w hr hS=>by
  obtain ⟨h1,h2,h3⟩:=hs w cargs hS hr
  exact (h.2 cargs w h2 h1).mono fun e w' ⟨v,c,st'',k1,k2,k3,k4,k5⟩=>⟨v,c,st'',k1,k2,k3,k4,h3.trans k5⟩⟩
theorem S.post {P:Program} {f:FuncId} {args:List AV} {st:St} {post post':KK} (h:S P f args st post) (hs:∀ v st',post v st'→∃ v' st'',post' v' st''∧A7 [v] st' [v'] st''):S P f args st post' :=
 ⟨h.1,fun cargs w hr hS=>(h.2 cargs w hr hS).mono fun e w' ⟨v,c,st',h1,h2,h3,h4,h5⟩=>by
  obtain ⟨v',st'',k1,k2⟩:=hs v st' h1
  obtain ⟨m1,m2,m3⟩:=k2 w' #[c] h4 ⟨rfl,fun j y d hy hd=>by
   cases j with
   | zero=>simp at hy hd;subst hy;subst hd;exact h3
   | succ j=>simp at hy⟩
  exact ⟨v',c,st'',k1,h2,m2.2 0 v' c rfl rfl,m1,h5.trans m3⟩⟩
def A5f (A:List AV) (c:Callee) (args:List AV):Option (FuncId×List AV) :=
 match c with
 | .value f=>match ev A f with
  | .fn g fs cs=>match g with
   | .func n=>some (n,fs++args++cs)
   | _=>none
  | _=>none
 | _=>none
def A3z (P:Program) (f:FuncId) (args:List AV) (st:St) (k:KK):Prop:=∃ args' st',A7 args st args' st'∧S P f args' st' k
theorem B2S {P:Program} {o:Oper} {a:Act} {st:St} {w:World} {f:FuncId} {args:List AV} {cargs:Array Value} {k:KK} {next:Act→World→Prop} {Q:Exit→Act→World→Prop}
  (hrun:(execOp a.eval o).run P w=.ok (.enter f cargs) w) (hR:A7s w st args cargs) (hS:H9 st w) (h:A3z P f args st k) (hn:Nxt st w k a o.dst next):o.wp P a w next Q:=by
 obtain ⟨args',st',hsh,hsp⟩:=h
 obtain ⟨h1,h2,h3⟩:=hsh w cargs hS hR
 unfold Oper.wp
 rw [hrun]
 exact (hsp.2 cargs w h2 h1).mono fun e w' ⟨v,c,st'',k1,k2,k3,k4,k5⟩=>by
  subst k2
  exact hn v c st'' w' k1 k3 k4 (h3.trans k5)
theorem A7s.append {w:World} {st:St} {a b:List AV} {c d:Array Value} (h:A7s w st a c) (k:A7s w st b d):A7s w st (a++b) (c++d):=by
 refine ⟨by simp [h.1,k.1],fun j y u hy hu=>?_⟩
 rcases D8E j a.length with hj | hj
 ·rw [D7B hj] at hy
  rw [D9U (by rw [←h.1];exact hj)] at hu
  exact h.2 j y u hy hu
 ·rw [D7A hj] at hy
  rw [Array.getElem?_append_right (by rw [←h.1];exact hj),←h.1] at hu
  exact k.2 _ y u hy hu
theorem C7P {P:Program} {o:Oper} {A:List AV} {a:Act} {st:St} {w:World} {c:Call} {f:FuncId} {args:List AV} {k:KK} {next:Act→World→Prop} {Q:Exit→Act→World→Prop}
  (ho:o.op=.call c) (hA:Q0 w st A a) (hS:H9 st w) (ht:A5f A c.callee (c.args.toList.map (ev A))=some (f,args)) (h:A3z P f args st k) (hn:Nxt st w k a o.dst next):o.wp P a w next Q:=by
 obtain ⟨callee,cargs,ts⟩:=c
 unfold A5f at ht
 split at ht
 case h_2=>cases ht
 rename_i x hx
 simp only at hx
 subst hx
 have hr:=I2 hA x
 split at ht
 case h_2=>cases ht
 rename_i g fs cs hg
 rw [hg] at hr
 split at ht
 case h_2=>cases ht
 rename_i n
 cases ht
 generalize hxv:a.eval x=xv at hr
 cases hr with
 | fn g fs cs gs ds hl hl' hgs hds =>
  have hent:Ent P f:=by obtain ⟨_,_,_,hs⟩:=h;exact hs.1
  refine B2S (cargs:=gs++cargs.map a.eval++ds) ?_ (A7s.append (A7s.append ⟨hl,hgs⟩ (A4c hA cargs)) ⟨hl',hds⟩) hS h hn
  simp only [execOp,ho,resolve,hxv,Deferred.ofValue,Sem.run_bind,Sem.run_pure,Result.andThen_ok,invoke]
  exact hent _ _
abbrev J5:=TypeId→String→Option (FuncId×Option TypeId)
def MOk (P:Program) (M:J5):Prop:=∀ t name f d,M t name=some (f,d)→∀ (v:Value) (w:World),
 match d with
 | none=>∀ args,(callMethod (.iface t v) name args).run P w=(callFunc f (#[v]++args)).run P w
 | some el=>∀ (ad:Addr) (u:Value) args,v=.pointer (some ad)→(loadVar el ad).run P w=.ok u w→(callMethod (.iface t v) name args).run P w=(callFunc f (#[u]++args)).run P w
def A6U (P:Program) (T:H5) (M:J5) (r:AV) (name:String) (args:List AV) (st:St) (k:KK):Prop :=
 match r with
 | .iface t v=>match M t name with
  | some (f,none)=>A3z P f (v::args) st k
  | some (f,some el)=>A3A T el v st (fun u st'=>A3z P f (u::args) st' k)
  | none=>False
 | _=>False
def A2I (T:H5) (b:Builtin) (args:List AV) (ts:List TypeId) (st:St) (k:KK):Prop :=
 match b with
 | .len=>match args,ts with
  | [x],[t]=>match T t with
   | some r=>match C8T r.desc x with | some v=>k v st | none=>False
   | none=>False
  | _,_=>False
 | .cap=>match args,ts with
  | [x],[t]=>match T t with
   | some r=>match C8S r.desc x with | some v=>k v st | none=>False
   | none=>False
  | _,_=>False
 | .min=>match args with | [x,y]=>(match C8V x y with | some v=>k v st | none=>False) | _=>False
 | .max=>match args with | [x,y]=>(match C8U x y with | some v=>k v st | none=>False) | _=>False
 | .append=>match args,ts with
  | [s,x],[t,u]=>t=u∧A5d T t s x st k
  | _,_=>False
 | _=>False
def aOp (P:Program) (T:H5) (M:J5) (o:Oper) (A:List AV) (st:St) (k:KK):Prop :=
 match o.op with
 | .move x=>k (ev A x) st
 | .assign x=>k (ev A x) st
 | .pick c x y=>match ev A c with | .bool b=>(b=true→k (ev A x) st)∧(b=false→k (ev A y) st) | _=>False
 | .binOp op t x y _=>match B6h T op t y (ev A x) (ev A y) with | some v=>k v st | none=>False
 | .unOp op _ x=>match aUn op (ev A x) with | some v=>k v st | none=>False
 | .load t x=>A3A T t (ev A x) st k
 | .store t x y=>(match T t with | some r=>0<r.size | none=>False)∧A7M T t (ev A x) (ev A y) st k
 | .alloc t=>match T t with | some r=>B8m t (I1 r.zero) st k | none=>False
 | .box t x=>B8m t (ev A x) st k
 | .build t ps=>A7J T t (evP A ps) (fun v=>k v st)
 | .buildSlice t n ps=>match n with
  | 0=>B6k T t (evP A ps) st k
  | m+1=>A1I T t (m+1) (evP A ps) st k
 | .nilCheck x=>A6V (ev A x)=true∧k (ev A x) st
 | .convert s d x=>match A8q T s d (ev A x) with | some v=>k v st | none=>False
 | .makeInterface t x=>B4Z T t=true∧k (.iface t (ev A x)) st
 | .makeFunc fn fs cs=>k (.fn fn (fs.toList.map (ev A)) (cs.toList.map (ev A))) st
 | .makeSlice t l c=>B1r T t (ev A l) (ev A c) st k
 | .slice t x lo hi mx=>A9r T t (ev A x) (lo.map (ev A)) (hi.map (ev A)) (mx.map (ev A)) (fun v=>k v st)
 | .fieldAddr s x f=>A1w T s (ev A x) f (fun v=>k v st)
 | .field s x f=>A7K T s (ev A x) f (fun v=>k v st)
 | .indexAddr t x i=>A2r T t (ev A x) (ev A i) (fun v=>k v st)
 | .index t x i=>A7L T t (ev A x) (ev A i) (fun v=>k v st)
 | .typeAssert x _ t ok=>match B0V T (ev A x) t ok with | some v=>k v st | none=>False
 | .extract x i=>A4w (ev A x) i (fun v=>k v st)
 | .call c=>match c.callee with
  | .builtin b=>A2I T b (c.args.toList.map (ev A)) c.argTypes.toList st k
  | .invoke r name=>A6U P T M (ev A r) name (c.args.toList.map (ev A)) st k
  | .value f=>match A5f A (.value f) (c.args.toList.map (ev A)) with | some (g,args)=>A3z P g args st k | none=>False
 | _=>False
structure A7H (P:Program) (T:H5) (M:J5):Prop where
 tab:TOk P T
 eqs:C3o P T
 zero:∀ t r,T t=some r→zOk r
 meth:MOk P M
theorem C2H {P:Program} {T:H5} {M:J5} (hG:A7H P T M) {o:Oper} {A:List AV} {a:Act} {st:St} {w:World} {r:Operand} {name:String} {xs:Array Operand} {ts:Array TypeId} {k:KK} {next:Act→World→Prop} {Q:Exit→Act→World→Prop}
  (ho:o.op=.call { callee:=.invoke r name,args:=xs,argTypes:=ts }) (hA:Q0 w st A a) (hS:H9 st w) (h:A6U P T M (ev A r) name (xs.toList.map (ev A)) st k) (hn:Nxt st w k a o.dst next):o.wp P a w next Q:=by
 have hr:=I2 hA r
 have hxs:=A4c hA xs
 generalize hrv:a.eval r=rv at hr
 generalize ev A r=ar at h hr
 unfold A6U at h
 split at h
 case h_2=>exact h.elim
 rename_i t v
 cases hr with
 | iface t v c hc =>
  have hargs:(#[Value.iface t c]++xs.map a.eval).extract 1 (#[Value.iface t c]++xs.map a.eval).size=xs.map a.eval:=by simp
  have hcm:(execOp a.eval o).run P w=(callMethod (.iface t c) name (xs.map a.eval)).run P w:=by
   simp only [execOp,ho,resolve,Sem.run_bind,Sem.run_pure,Result.andThen_ok,invoke,hrv]
   rw [show (#[Value.iface t c]++Array.map a.eval xs)[0]?=some (.iface t c) from by rw [D9U (by show 0<1;omega)];rfl]
   show Sem.run P (callMethod (.iface t c) name ((#[Value.iface t c]++Array.map a.eval xs).extract 1)) w=_
   rw [hargs]
  split at h
  ·rename_i f hM
   have hm:=hG.meth t name f none hM c w
   have hent:Ent P f:=by obtain ⟨_,_,_,hs⟩:=h;exact hs.1
   refine B2S (cargs:=#[c]++xs.map a.eval) ?_ (A7s.append (a:=[v]) (c:=#[c]) ⟨rfl,fun j y d hy hd=>by
    cases j with
    | zero=>simp at hy hd;subst hy;subst hd;exact hc
    | succ j=>simp at hy⟩ hxs) hS h hn
   rw [hcm,hm];exact hent _ _
  ·rename_i f el hM
   have hm:=hG.meth t name f (some el) hM c w
   -- the load
   unfold A3A at h
   split at h
   ·exact h.elim
   rename_i row hrow
   suffices hmain:∃ ad y u,c=.pointer (some ad)∧A3z P f (y::xs.toList.map (ev A)) st k∧K8 w st y u∧(loadVar el ad).run P w=.ok u w by
    obtain ⟨ad,y,u,rfl,hcall,hy,hrun⟩:=hmain
    have hent:Ent P f:=by obtain ⟨_,_,_,hs⟩:=hcall;exact hs.1
    refine B2S (cargs:=#[u]++xs.map a.eval) ?_ (A7s.append (a:=[y]) (c:=#[u]) ⟨rfl,fun j z d hz hd=>by
     cases j with
     | zero=>simp at hz hd;subst hz;subst hd;exact hy
     | succ j=>simp at hz⟩ hxs) hS hcall hn
    rw [hcm,hm ad u _ rfl hrun];exact hent _ _
   cases hc with
   | fptr v' off ad g hr' hg' =>
    obtain ⟨y,u,hk,hy,hrun⟩:=Z1 hG.tab hrow (w:=w) (st:=st) (a:=ad) (fun j y hy=>⟨g j,A4M (hr' j (D7w.1 hy).1),hg' j y hy⟩) h
    exact ⟨_,y,u,rfl,hk,hy,hrun⟩
   | optr e b i off =>
    simp only at h
    cases hb:st b with
    | none=>rw [hb] at h;exact h.elim
    | some bk =>
     rw [hb] at h
     obtain ⟨he,hi,h⟩:=h
     obtain ⟨cs,hok⟩:=hS b bk hb
     obtain ⟨y,u,hk,hy,hrun⟩:=Z1 hG.tab hrow (w:=w) (st:=st) (a:=⟨b,i * e,none⟩) (o:=off) (fun j y hy=>by
      obtain ⟨u,h1,h2⟩:=hok.cell i j y hi hy
      refine ⟨u,?_,h2⟩
      rw [Addr.add_lit,cell_of_row w b _ cs bk.ty (0,0) hok.heap,he];exact h1) h
     rw [Addr.add_lit] at hrun
     exact ⟨_,y,u,rfl,hk,hy,hrun⟩
   | _=>exact h.elim
  ·exact h.elim
theorem C5G {P:Program} {T:H5} {M:J5} (hG:A7H P T M) {o:Oper} {A:List AV} {a:Act} {st:St} {w:World} {k:KK} {next:Act→World→Prop} {Q:Exit→Act→World→Prop}
  (hA:Q0 w st A a) (hS:H9 st w) (h:aOp P T M o A st k) (hn:Nxt st w k a o.dst next):o.wp P a w next Q:=by
 unfold aOp at h
 split at h
 ·rename_i ho;exact C0P (.inl ho) hA hS h hn
 ·rename_i ho;exact C0P (.inr ho) hA hS h hn
 ·rename_i ho
  split at h
  ·rename_i hb;exact C7R ho hA hS hb h.1 h.2 hn
  ·exact h.elim
 ·rename_i ho
  split at h
  ·rename_i hb;exact C7O hG.tab hG.eqs ho hA hS hb h hn
  ·exact h.elim
 ·rename_i ho
  split at h
  ·rename_i hb;exact C7T ho hA hS hb h hn
  ·exact h.elim
 ·rename_i ho;exact C7Q hG.tab ho hA hS h hn
 ·rename_i ho
  refine C5I hG.tab ho hA hS h.2 (fun r hr=>?_) hn
  have:=h.1
  rw [hr] at this;exact this
 ·rename_i ho
  split at h
  ·rename_i hr;exact C5B hG.tab ho hr hS h hn
  ·exact h.elim
 ·rename_i ho;exact D0j ho hA hS h hn
 ·rename_i ho;exact C5D hG.tab hG.zero ho hA hS h hn
 ·rename_i ho
  split at h
  ·exact C7S hG.tab ho hA hS h hn
  ·exact B3F hG.tab hG.zero ho hA hS h hn
 ·rename_i ho;exact B7J ho hA hS h.1 h.2 hn
 ·rename_i ho
  split at h
  ·rename_i hb;exact B9A hG.tab ho hA hS hb h hn
  ·exact h.elim
 ·rename_i ho;exact B0e hG.tab ho hA hS h.1 h.2 hn
 ·rename_i ho;exact B7I ho hA hS h hn
 ·rename_i ho;exact B5L hG.tab hG.zero ho hA hS h hn
 ·rename_i ho;exact C5H hG.tab ho hA hS h hn
 ·rename_i ho;exact B5J hG.tab ho hA hS h hn
 ·rename_i ho;exact C5E hG.tab ho hA hS h hn
 ·rename_i ho;exact B5K hG.tab ho hA hS h hn
 ·rename_i ho;exact C5F hG.tab ho hA hS h hn
 ·rename_i ho
  split at h
  ·rename_i hb;exact B3G hG.tab ho hA hS hb h hn
  ·exact h.elim
 ·rename_i ho;exact B9B ho hA hS h hn
 ·rename_i c ho
  split at h
  ·rename_i b hb
   obtain ⟨callee,xs,ts⟩:=c
   simp only at hb h
   subst hb
   unfold A2I at h
   split at h
   ·split at h
    ·rename_i x t hx ht
     split at h
     ·rename_i r hr
      split at h
      ·rename_i v hv
       obtain ⟨xs⟩:=xs
       obtain ⟨ts⟩:=ts
       simp only at hx ht
       match xs,hx with
       | [y],hx =>
        simp only [D8k,E0e,List.cons.injEq,and_true] at hx
        subst hx
        subst ht
        exact D0l hG.tab ho hA hS hr hv h hn
      ·exact h.elim
     ·exact h.elim
    ·exact h.elim
   ·split at h
    ·rename_i x t hx ht
     split at h
     ·rename_i r hr
      split at h
      ·rename_i v hv
       obtain ⟨xs⟩:=xs
       obtain ⟨ts⟩:=ts
       simp only at hx ht
       match xs,hx with
       | [y],hx =>
        simp only [D8k,E0e,List.cons.injEq,and_true] at hx
        subst hx
        subst ht
        exact D0k hG.tab ho hA hS hr hv h hn
      ·exact h.elim
     ·exact h.elim
    ·exact h.elim
   ·split at h
    ·rename_i x y hx
     split at h
     ·rename_i v hv
      obtain ⟨xs⟩:=xs
      simp only at hx
      match xs,hx with
      | [x1,y1],hx =>
       simp only [D8k,E0e,List.cons.injEq,and_true] at hx
       obtain ⟨rfl,rfl⟩:=hx
       exact D0n ho hA hS hv h hn
     ·exact h.elim
    ·exact h.elim
   ·split at h
    ·rename_i x y hx
     split at h
     ·rename_i v hv
      obtain ⟨xs⟩:=xs
      simp only at hx
      match xs,hx with
      | [x1,y1],hx =>
       simp only [D8k,E0e,List.cons.injEq,and_true] at hx
       obtain ⟨rfl,rfl⟩:=hx
       exact D0m ho hA hS hv h hn
     ·exact h.elim
    ·exact h.elim
   ·split at h
    ·rename_i x y t u hx ht
     obtain ⟨rfl,h⟩:=h
     obtain ⟨xs⟩:=xs
     obtain ⟨ts⟩:=ts
     simp only at hx ht
     subst ht
     match xs,hx with
     | [x1,y1],hx =>
      simp only [D8k,E0e,List.cons.injEq,and_true] at hx
      obtain ⟨rfl,rfl⟩:=hx
      exact C2G hG.tab ho hA hS h hn
    ·exact h.elim
   ·exact h.elim
  ·rename_i r name hb
   obtain ⟨callee,xs,ts⟩:=c
   simp only at hb h
   subst hb
   exact C2H hG ho hA hS h hn
  ·rename_i f hb
   split at h
   ·rename_i g args ht
    rw [←hb] at ht
    exact C7P ho hA hS ht h hn
   ·exact h.elim
 ·exact h.elim
end Go.Ab
