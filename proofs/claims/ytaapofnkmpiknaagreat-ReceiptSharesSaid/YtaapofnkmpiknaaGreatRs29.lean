/- Part 29 of the proof: contracts of the functions that the law reaches -/
import Derived.Test.YtaapofnkmpiknaaGreatRs28
set_option maxRecDepth 100000
set_option linter.unusedVariables false
set_option linter.unusedSimpArgs false
namespace Go.Proofs.YtaapofnkmpiknaaGreat
open Go Go.Ab
attribute [local irreducible] upd del
structure Pay where
 kind:Int
 amount:Int
 deriving Inhabited
def B0V (x:Pay):AV:=.agg [eI x.kind,eI x.amount]
def A3t (x:Pay):Bool:=O7 1 9 x.kind&&decide (x.amount≥1)&&K6 x.amount
def O0 (l:List Pay):Int:=l.foldl (fun a x=>a+x.amount) 0
def A5u (l:List Pay) (total:Int):Bool:=decide ((l.length:Int)≤6)&&l.all A3t&&(O0 l==total)
theorem B4A {l:List Pay}:∀ i,i≤l.length→(∀ k,k<i→A3t (l.getD k default)=true)→0≤O0 (l.take i)∧O0 (l.take i)≤100000000000000 * (i:Int)
 | 0,_,_=>⟨by rw [D7p];exact D6i _,by rw [D7p];exact D6i _⟩
 | i+1,hi,h=>by
  have ih:=B4A i (by omega) fun k hk=>h k (by omega)
  have hx:=h i (by omega)
  unfold A3t K6 at hx
  simp only [D5I,E3,D5E] at hx
  have e:O0 (l.take (i+1))=O0 (l.take i)+(l.getD i default).amount:=I0 (by omega) _ _
  rw [e]
  omega
theorem C8l (l:List Pay) (total:Int) (hl:l.length≤100000) (st:St):S P 61 [A8 2 B0V l,eI total] st fun v st'=>v=.bool (A5u l total)∧st'=st:=by
 have hP:A5u l total=(decide ((l.length:Int)≤6)&&l.all A3t&&(O0 l==total)):=rfl
 refine F2 [7] Tryz.func61 ?_
 refine B8 (fun h=>?_) (fun h=>?_)<;>rw [h]<;>simp only [D5E,D5D] at h
 ·rw [D5J (by omega)] at hP
  rw [hP];conv=>whnf
  exact ⟨rfl,rfl⟩
 rw [D6m (by omega),D5T] at hP;conv=>whnf
 refine lp l.length [1,5,11,12,13] (fun i vs s=>(∀ k,k<i→A3t (l.getD k default)=true)∧vs=[eI total,eI (O0 (l.take i)),A8 2 B0V l,eI l.length,eI i]∧s=st) ?_ ?_
 ·conv=>whnf
  exact ⟨fun k hk=>absurd hk (by omega),rfl,rfl⟩
 rintro i vs s hi ⟨hok,rfl,rfl⟩
 conv=>whnf
 cases h1:decide ((i:Int)<(l.length:Int))
 ·obtain rfl:=C4 h1 hi
  rw [show l.all A3t=true from D5Y.2 fun x hx=>by obtain ⟨k,hk,rfl⟩:=D3 hx;exact hok k hk,D5T] at hP
  rw [hP,D5N]
  generalize O0 l=Z
  conv=>whnf
  exact ⟨rfl,rfl⟩
 have hi':=D8 h1
 have n1:=fun s=>B7O (l.getD (i:Int).toNat default).kind s
 have n2:=fun s=>A5a (l.getD (i:Int).toNat default).amount s
 have hx:A3t (l.getD (i:Int).toNat default)=(O7 1 9 (l.getD (i:Int).toNat default).kind&&decide ((l.getD (i:Int).toNat default).amount≥1)&&K6 (l.getD (i:Int).toNat default).amount):=rfl
 have hb:=B4A i hi hok
 have hs:O0 (l.take (i+1))=O0 (l.take i)+(l.getD (i:Int).toNat default).amount:=I0 hi' _ _
 have hm:A3t (l.getD (i:Int).toNat default)=true→0≤(l.getD (i:Int).toNat default).amount∧(l.getD (i:Int).toNat default).amount≤100000000000000:=fun hm=>by
  rw [hx] at hm
  unfold K6 at hm
  simp only [D5I,E3,D5E] at hm
  omega
 have hw:A3t (l.getD (i:Int).toNat default)=true→IntKind.i64.wrap (O0 (l.take i)+(l.getD (i:Int).toNat default).amount)=O0 (l.take (i+1)):=fun h2=>by
  have:=hm h2
  rw [hs];exact A5 (by omega) (by omega)
 have yes:A3t (l.getD (i:Int).toNat default)=true→∀ k,k<i+1→A3t (l.getD k default)=true:=fun hm=>H8 hok hm
 have no:A3t (l.getD (i:Int).toNat default)=false→A5u l total=false:=fun hm=>by
  rw [hP,show l.all A3t=false by
   have hm:A3t (l.getD i default)=false:=hm
   rw [D7s];intro e
   rw [D5Y.1 e _ (A6 hi')] at hm;cases hm]
  rfl
 generalize A3t (l.getD (i:Int).toNat default)=t at hx hw yes no
 generalize hY:O0 (l.take (i+1))=Y at hw
 generalize O0 (l.take i)=Z at hw ⊢
 clear hok hb hs hm hP
 conv=>whnf
 refine ⟨rfl,⟨by omega,by omega⟩,?_⟩
 generalize O7 1 9 (l.getD (i:Int).toNat default).kind=b1 at *
 generalize K6 (l.getD (i:Int).toNat default).amount=b2 at *
 cases t with
 | true =>
  have hx:=hx.symm
  simp only [D5I,D5E] at hx
  obtain ⟨⟨rfl,e3⟩,rfl⟩:=hx
  have g1:decide ((l.getD (i:Int).toNat default).amount<1)=false:=D5J (by omega)
  repeat' ((conv=>whnf);first | refine B3 (n1 _) ?_ | refine B3 (n2 _) ?_ | rw [g1])
  refine F7 ?_
  exact nx hi' ⟨yes rfl,by rw [hY,←hw rfl,B4 (by omega)],rfl⟩
 | false =>
  repeat' ((conv=>whnf);first | refine B3 (n1 _) ?_ | refine B3 (n2 _) ?_ | (refine B8 (fun h=>?_) (fun h=>?_)<;>rw [h]))
  all_goals first
   | (exfalso
      simp only [D5W,D6l,D5E,D5D] at *
      have e:(b1&&decide ((l.getD (i:Int).toNat default).amount≥1)&&b2)=true:=by
       simp only [D5I,D5E]
       exact ⟨⟨by assumption,by omega⟩,by assumption⟩
      rw [←hx] at e;cases e;done)
   | (conv=>whnf
      rw [no rfl]
      exact ⟨rfl,rfl⟩)
def R1 (l:List E4) (q:Z1) (i:Nat):A2m:=⟨(l.getD i default).sku,(l.getD i default).price,(l.getD i default).qty,(l.getD i default).qty,gI q.goods i,gI q.taxes i⟩
def U2 (l:List E4) (q:Z1):List A2m:=(List.range l.length).map (R1 l q)
theorem C7Y (l:List E4) (q:Z1) (hl:l.length≤1000) (h1:q.goods.length=l.length) (h2:q.taxes.length=l.length) (st:St):S P 63 [A8 3 H6 l,A0a q] st fun v st'=>v=A8 6 Q7 (U2 l q)∧st'=st:=by
 refine A0L (ty:=55) ?_
 refine F2 [3,7] Tryz.func63 ?_
 refine lp l.length [3,5,8,9,10] (fun i vs s=>∃ sv,vs=[.fptr (A0a q) 0,sv,A8 3 H6 l,eI l.length,eI i]∧E0 55 6 Q7 ((List.range i).map (R1 l q)) st sv s) ?_ ?_
 ·conv=>whnf
  exact ⟨.emp,rfl,E0.start _ _ _ _⟩
 rintro i vs s hi ⟨sv,rfl,hc⟩
 conv=>whnf
 cases h:decide ((i:Int)<(l.length:Int))
 ·obtain rfl:=C4 h hi
  conv=>whnf
  exact hc
 have hi':=D8 h
 have hln:((List.range i).map (R1 l q)).length=i:=by rw [D5H,D6c]
 have htk:(List.range (i+1)).map (R1 l q)=(List.range i).map (R1 l q)++[R1 l q i]:=by rw [D6R,D6g];rfl
 conv=>whnf
 refine E7 ?_
 refine ⟨[20,21],[],List.range 23,by kernel_rfl,?_⟩;conv=>whnf
 refine ⟨rfl,⟨by omega,by rw [h1];omega⟩,?_⟩;conv=>whnf
 refine ⟨rfl,⟨by omega,by rw [h2];omega⟩,?_⟩;conv=>whnf
 refine E0.app (q:=r55) (y:=R1 l q i) rfl rfl rfl rfl rfl rfl (by rw [hln];show (i+1) * 56≤140737488355328;omega) hc (fun sv' s' hc'=>?_);conv=>whnf
 refine F7 ?_
 exact nx hi' ⟨sv',by rw [B4 (by omega)],by rw [htk];exact hc'⟩
def aqP:List Pay:=[⟨1,110⟩]
def aqK:List A2m:=[⟨⟨#[97]⟩,50,2,2,100,10⟩]
def aqO:T9:=⟨⟨#[111]⟩,1,⟨#[122]⟩,false,[],3,aqK,0,0,0,110,⟨100,10,0,0,0⟩,[⟨1,110,0⟩]⟩
def aqC:AV:=.agg [eI 0,eS ⟨#[]⟩,.emp,.emp,eB false,eB false,eI 0,.emp,eI 0,eI 0,eI 0,eI 0,eI 0,eI 0,.emp,.emp,eI 0,eS ⟨#[111]⟩,eS ⟨#[122]⟩,eB false,.emp,A8 2 A4U aqA,A8 2 B0V aqP,.emp,eI 0,eI 0,eI 0]
theorem C0j (st:St):S P 58 [H3 aqR,eI 1,aqC,eI 3] st fun v st'=>v=eI 0∧st'=st:=by
 have n1:=C2U 3 st
 rw [show O7 0 100000 3=true by kernel_rfl] at n1
 have n2:=A2F ⟨#[111]⟩ st
 rw [show D0 ⟨#[111]⟩=true by kernel_rfl] at n2
 have n3:=A2F ⟨#[122]⟩ st
 rw [show D0 ⟨#[122]⟩=true by kernel_rfl] at n3
 have n4:=B9L aqR C2E st
 rw [show V8 aqR=true by kernel_rfl] at n4
 have n5:S P 120 [.emp] st fun v st'=>v=.bool true∧st'=st:=(by
  have h:=B4f [] (by decide) st
  rw [show S7 []=true by kernel_rfl] at h
  exact h.pre (I1 1 _))
 refine SyW [4,6] Tryz.func58 ?_
 repeat' ((conv=>whnf);first | refine B3 n1 ?_ | refine B3 n2 ?_ | refine B3 n3 ?_ | refine B3 n4 ?_ | refine B3 n5 ?_)
 exact ⟨rfl,rfl⟩
set_option maxHeartbeats 2000000 in
theorem C2C (st:St):S P 17 [H3 aqR,eI 1,aqC,eI 3] st fun v st'=>v=.tuple [W8 aqO,eI 0]∧st'=st:=by
 have n1:=fun s=>C0j s
 have n2:=fun s=>C3Q aqI aqA (by decide) s
 rw [C2F] at n2
 have n3:∀ s,S P 60 [H3 aqR,eS ⟨#[122]⟩,eB false,.emp,A8 3 H6 aqL] s fun v s'=>v=.tuple [A0a aqQ,eI 0]∧s'=s:=fun s =>
  (C0l s).pre (A7.cons (A7.keep [H3 aqR] _) (A7.cons (A7.keep [eS ⟨#[122]⟩] _) (A7.cons (A7.keep [eB false] _) (A7.cons (I1 1 _) (A7.keep _ _)))))
 have n4:=fun s=>C8l aqP 110 (by decide) s
 rw [show A5u aqP 110=true by kernel_rfl] at n4
 have n5:∀ s,S P 62 [.emp] s fun v s'=>v=A8 1 eS []∧s'=s:=fun s=>(B5y [] (by decide) s).pre (I1 1 _)
 have n6:=fun s=>C7Y aqL aqQ (by decide) rfl rfl s
 rw [show U2 aqL aqQ=aqK by kernel_rfl] at n6
 have n7:=fun s=>C7I aqQ ⟨by decide,fun x hx=>by rw [D6h.1 hx];decide⟩ ⟨by decide,fun x hx=>by rw [D6h.1 hx];decide⟩ s
 rw [show U6 aqQ=⟨100,10,0,0,0⟩ by kernel_rfl] at n7
 refine S.post (post:=fun v s'=>∃ b g,st b=none∧s' b=some ⟨70,3,1,g⟩∧g 0=A0d ⟨1,110,0⟩∧E8 st s' ∧
  v=.tuple [.agg [eS ⟨#[111]⟩,eI 1,eS ⟨#[122]⟩,eB false,A8 1 eS [],eI 3,A8 6 Q7 aqK,eI 0,eI 0,eI 0,eI 110,eI 100,eI 10,eI 0,eI 0,eI 0,.own 3 b 0 1],eI 0]) ?_ (fun v s' ⟨b,g,hb,hg,hg0,hs,hv⟩=>⟨_,st,⟨rfl,rfl⟩,by
   rw [hv]
   have h1:=N7 (st:=s') (f:=fun k=>A0d ((⟨1,110,0⟩::[]:List A2A).getD k default)) hg rfl (D5L _) (fun i hi=>by
    have hi:i<1:=hi
    have:i=0:=by omega
    subst this;exact hg0)
   have hA:A7 [.tuple [.agg [eS ⟨#[111]⟩,eI 1,eS ⟨#[122]⟩,eB false,A8 1 eS [],eI 3,A8 6 Q7 aqK,eI 0,eI 0,eI 0,eI 110,eI 100,eI 10,eI 0,eI 0,eI 0,.own 3 b 0 1],eI 0]] s' [.tuple [W8 aqO,eI 0]] (del s' b):=by
    refine A7.tuple (A7.cons (A7.agg ?_) (A7.keep _ _)) rfl
    iterate 16 refine A7.cons (A7.keep [_] _) ?_
    exact h1
   exact hA.trans ((hs.del hb).shift _)⟩)
 refine F2 [4,6,16] Tryz.func17 ?_
 intro b8 hb8;conv=>whnf
 refine I5 (n1 _) ?_
 refine I5 (n2 _) ?_
 refine I5 (n3 _) ?_
 intro b13 hb13
 have h813:b8≠b13:=fun e=>by subst e;rw [A0] at hb13;cases hb13
 conv=>whnf
 refine stU (A0 ..) rfl ?_
 rw [C0];conv=>whnf
 generalize hst:(upd (upd st b8 _) b13 _:St)=S0
 obtain ⟨f13,at13,hf13⟩:∃ f13:Nat→AV,S0 b13=some ⟨113,6,1,f13⟩∧f13 0=A0a aqQ:=by rw [←hst];exact ⟨_,A0 ..,by rw [A4];rfl⟩
 obtain ⟨f8,at8,hf8⟩:∃ f8:Nat→AV,S0 b8=some ⟨50,17,1,f8⟩∧f8 0=H2 r50.zero:=by rw [←hst,A9 h813];exact ⟨_,A0 ..,rfl⟩
 have hs0:E8 st S0:=by rw [←hst];exact ((E8.refl st).upd hb8).upd hb13
 clear hst hb13
 refine J0 at13 hf13 ?_
 refine I5 (n4 _) ?_
 refine ⟨[23,24],[1,4,6,8,9,12,13,15,17,19,20,21],List.range 25,by kernel_rfl,?_⟩
 repeat' ((conv=>whnf);first | refine ⟨_,fun s _=>⟨rfl,rfl⟩,?_⟩ | refine ⟨_,fun s _=>H0 (n5 s),?_⟩ | refine ⟨_,fun s _=>H0 (n6 s),?_⟩ | refine ⟨_,fun s _=>H0 (n7 s),?_⟩ | refine ⟨_,fun s hs=>ldV (hs _ _ at13) rfl (by omega) hf13 ⟨rfl,rfl⟩,?_⟩ | fail)
 intro b14 hb14
 have h814:b8≠b14:=fun e=>by subst e;rw [at8] at hb14;cases hb14
 conv=>whnf
 refine stU (A0 ..) rfl ?_
 rw [C0];conv=>whnf
 generalize hst:(upd S0 b14 _:St)=S1
 obtain ⟨f14,at14,hf14⟩:∃ f14:Nat→AV,S1 b14=some ⟨50,17,1,f14⟩∧f14 0=.agg [eS ⟨#[111]⟩,eI 1,eS ⟨#[122]⟩,eB false,A8 1 eS [],eI 3,A8 6 Q7 aqK,eI 0,eI 0,eI 0,eI 110,eI 100,eI 10,eI 0,eI 0,eI 0,.emp]:=by rw [←hst];exact ⟨_,A0 ..,by rw [A4];rfl⟩
 have at8:S1 b8=some ⟨50,17,1,f8⟩:=by rw [←hst,A9 h814];exact at8
 have hs1:E8 st S1:=by rw [←hst];exact hs0.upd hb14
 have hn14:st b14=none:=hs0.none hb14
 clear hst hb14 at13
 refine ⟨[8,14,85,86,87],fun m vs s=>∃ i:Nat,m=1 - i∧vs=[.optr 17 b8 0 0,.optr 17 b14 0 0,A8 2 B0V aqP,eI 1,eI i]∧((i=0∧s=S1)∨(i=1∧∃ b g f,S1 b=none∧s=upd (upd S1 b ⟨70,3,1,g⟩) b14 ⟨50,17,1,f⟩∧g 0=A0d ⟨1,110,0⟩∧f 0=.agg [eS ⟨#[111]⟩,eI 1,eS ⟨#[122]⟩,eB false,A8 1 eS [],eI 3,A8 6 Q7 aqK,eI 0,eI 0,eI 0,eI 110,eI 100,eI 10,eI 0,eI 0,eI 0,.own 3 b 0 1])),?_,?_⟩
 ·conv=>whnf
  exact ⟨1,0,rfl,rfl,.inl ⟨rfl,rfl⟩⟩
 rintro m vs s ⟨i,rfl,rfl,⟨rfl,rfl⟩ | ⟨rfl,bT,g,f,hbT,rfl,hg,hf⟩⟩
 ·conv=>whnf
  refine ⟨rfl,⟨by decide,by decide⟩,?_⟩;conv=>whnf
  refine J0 at14 hf14 ?_
  refine apE rfl rfl rfl rfl (A2K ..) (by show 1 * 24≤_;omega) (fun h=>absurd h (by omega)) (fun _ bT hbT=>?_)
  have hne:b14≠bT:=fun e=>by subst e;rw [at14] at hbT;cases hbT
  conv=>whnf
  refine Y9 (by rw [A9 hne];exact at14) hf14 ?_
  refine F7 ?_
  exact ⟨0,by decide,1,rfl,rfl,.inr ⟨rfl,bT,_,_,hbT,rfl,rfl,by rw [A4];rfl⟩⟩
 ·have hne:b14≠bT:=fun e=>by subst e;rw [at14] at hbT;cases hbT
  have hne8:b8≠bT:=fun e=>by subst e;rw [at8] at hbT;cases hbT
  conv=>whnf
  refine J0 (A0 ..) hf ?_
  refine Y9 (by rw [A9 h814,A9 hne8];exact at8) hf8 ?_
  refine J0 (A0 ..) (A4 ..) ?_
  exact ⟨bT,g,hs1.none hbT,by rw [A9 hne8.symm,A9 hne.symm];exact A0 ..,hg,((hs1.upd hbT).over hn14).over hb8,rfl⟩
def B1v (t:Int) (x:Pay):Pay:=⟨1+B6 x.kind 5,1+B6 x.amount t⟩
def A3K (s:Int×List Pay) (x:Pay):Int×List Pay :=
 if s.1>1 then (if (B1v s.1 x).amount<s.1 then (s.1 - (B1v s.1 x).amount,s.2++[B1v s.1 x]) else s) else s
def N0 (t:Int) (l:List Pay):Int×List Pay:=l.foldl A3K (t,[])
def O4 (t:Int) (l:List Pay):List Pay :=
 if (N0 t (l.take 2)).1>0 then (N0 t (l.take 2)).2++[⟨1+B6 l.length 5,(N0 t (l.take 2)).1⟩] else (N0 t (l.take 2)).2
theorem B1w (a:List Pay) (x:Pay):O0 (a++[x])=O0 a+x.amount:=by unfold O0;rw [D7r];rfl
theorem C3I {t:Int} (ht:1<t∧t≤100000000000000) (x:Pay):A3t (B1v t x)=true:=by
 have h1:=C7 x.kind (n:=5) (by decide)
 have h2:=C7 x.amount (n:=t) (by omega)
 unfold A3t K6 B1v
 simp only [D5I,E3,D5E]
 omega
structure B8Z (t:Int) (n:Nat) (s:Int×List Pay):Prop where
 left:0≤s.1∧s.1≤t
 sum:O0 s.2+s.1=t
 ok:∀ x∈s.2,A3t x=true
 len:s.2.length≤n
theorem B8Z.step {t:Int} {n:Nat} {s:Int×List Pay} (ht:t≤100000000000000) (h:B8Z t n s) (x:Pay):B8Z t (n+1) (A3K s x):=by
 obtain ⟨h1,h2,h3,h4⟩:=h
 unfold A3K
 split
 ·rename_i hs
  split
  ·rename_i ha
   have hk:=C3I (t:=s.1) ⟨hs,by omega⟩ x
   have hp:(B1v s.1 x).amount≥1:=by
    unfold A3t at hk
    simp only [D5I,D5E] at hk
    exact hk.1.2
   exact ⟨⟨by show 0≤s.1 - _;omega,by show s.1 - _≤t;omega⟩,by show O0 (s.2++[_])+(s.1 - _)=t;rw [B1w];omega,fun y hy=>by
    rcases D6T.1 hy with hy | hy
    ·exact h3 y hy
    ·rw [D6h.1 hy];exact hk,by show (s.2++[_]).length≤n+1;rw [D5O];exact Nat.succ_le_succ h4⟩
  ·exact ⟨h1,h2,h3,by omega⟩
 ·exact ⟨h1,h2,h3,by omega⟩
theorem A7C {t:Int} (h0:0≤t) (ht:t≤100000000000000) (l:List Pay):∀ i,i≤l.length→B8Z t i (N0 t (l.take i))
 | 0,_=>⟨⟨h0,D6i _⟩,by show 0+t=t;omega,fun x hx=>(by cases hx),D5L _⟩
 | i+1,hi=>by
  have:=(A7C h0 ht l i (by omega)).step ht (l.getD i default)
  rwa [show N0 t (l.take (i+1))=A3K (N0 t (l.take i)) (l.getD i default) from I0 (by omega) _ _]
theorem B2E {t:Int} (h0:0≤t) (ht:t≤100000000000000) (l:List Pay):A5u (O4 t l) t=true∧(O4 t l).length≤3:=by
 have hlen:(l.take 2).length≤2:=by rw [D5M];omega
 have h:=A7C h0 ht (l.take 2) (l.take 2).length (D5L _)
 rw [D5N] at h
 obtain ⟨h1,h2,h3,h4⟩:=h
 have hm:=C7 (l.length:Int) (n:=5) (by decide)
 unfold O4 A5u
 generalize N0 t (l.take 2)=s at *
 split
 ·rename_i hp
  refine ⟨?_,by rw [D5O];show s.2.length+1≤3;omega⟩
  rw [B1w]
  simp only [D5I,D5E,D5Y,D6z]
  refine ⟨⟨by rw [D5O];show ((s.2.length+1:Nat):Int)≤6;omega,fun x hx=>?_⟩,h2⟩
  rcases D6T.1 hx with hx | hx
  ·exact h3 x hx
  ·rw [D6h.1 hx]
   unfold A3t K6
   simp only [D5I,E3,D5E]
   omega
 ·rename_i hp
  simp only [D5I,D5E,D5Y,D6z]
  exact ⟨⟨⟨by omega,h3⟩,by omega⟩,by omega⟩
theorem B6d {t:Int} {l:List Pay} {i:Nat} (h:(N0 t (l.take i)).1≤1):∀ j,i≤j→N0 t (l.take j)=N0 t (l.take i)
 | 0,hj=>by rw [show i=0 by omega]
 | j+1,hj=>by
  by_cases e:i=j+1
  ·rw [e]
  ·have ih:=B6d h j (by omega)
   by_cases hl:j<l.length
   ·rw [show N0 t (l.take (j+1))=A3K (N0 t (l.take j)) (l.getD j default) from I0 hl _ _,ih]
    unfold A3K
    rw [if_neg (by omega)]
   ·rw [D7w (by omega)] at ih ⊢
    exact ih
set_option maxHeartbeats 2000000 in
theorem B8i (t:Int) (l:List Pay) (h0:0≤t) (ht:t≤100000000000000) (hl:l.length≤100000) (st:St):S P 57 [eI t,A8 2 B0V l] st fun v st'=>v=A8 2 B0V (O4 t l)∧st'=st:=by
 refine A0L (ty:=73) ?_
 refine F2 [7] Tryz.func57 ?_
 refine lp (min l.length 2) [0,1,5,6] (fun i vs s=>∃ sv,vs=[eI (N0 t (l.take i)).1,A8 2 B0V l,sv,eI i]∧E0 73 2 B0V (N0 t (l.take i)).2 st sv s) ?_ ?_
 ·conv=>whnf
  exact ⟨.emp,rfl,E0.start _ _ _ _⟩
 rintro i vs s hi ⟨sv,rfl,hc⟩
 have hin:=A7C h0 ht l i (by omega)
 have hfin:(¬ i<l.length∨¬ i<2∨¬(N0 t (l.take i)).1>1)→N0 t (l.take 2)=N0 t (l.take i):=fun h=>by
  rcases h with h | h | h
  ·rw [show i=l.length by omega,D5N,D7w (by omega)]
  ·rw [show i=2 by omega]
  ·exact B6d (by omega) 2 (by omega)
 have hst:i<l.length→N0 t (l.take (i+1))=A3K (N0 t (l.take i)) (l.getD (i:Int).toNat default):=fun h=>I0 h _ _
 have hP:O4 t l=if (N0 t (l.take 2)).1>0 then (N0 t (l.take 2)).2++[⟨1+B6 l.length 5,(N0 t (l.take 2)).1⟩] else (N0 t (l.take 2)).2:=rfl
 generalize hS1:N0 t (l.take (i+1))=S1 at hst
 generalize N0 t (l.take 2)=S2 at hfin hP
 generalize N0 t (l.take i)=S0 at *
 obtain ⟨L,O⟩:=S0
 obtain ⟨⟨z0,z1⟩,-,-,z3⟩:=hin
 simp only at *
 conv=>whnf
 refine B8 (fun h1=>?_) (fun h1=>?_)<;>rw [h1]<;>simp only [D5E,D5D] at h1
 case' refine_1 =>
  conv=>whnf
  refine B8 (fun h2=>?_) (fun h2=>?_)<;>rw [h2]<;>simp only [D5E,D5D] at h2
 case' refine_1.refine_1 =>
  conv=>whnf
  refine B8 (fun h3=>?_) (fun h3=>?_)<;>rw [h3]<;>simp only [D5E,D5D] at h3
 case' refine_1.refine_1.refine_1 =>
  have hi':i<min l.length 2:=by omega
  have hS:=hst (by omega)
  have m1:=C7 (l.getD (i:Int).toNat default).kind (n:=5) (by decide)
  have m2:=C7 (l.getD (i:Int).toNat default).amount (n:=L) (by omega)
  have w1:IntKind.i64.wrap (1+B6 (l.getD (i:Int).toNat default).kind 5)=1+B6 (l.getD (i:Int).toNat default).kind 5:=A5 (by omega) (by omega)
  have w2:IntKind.i64.wrap (1+B6 (l.getD (i:Int).toNat default).amount L)=1+B6 (l.getD (i:Int).toNat default).amount L:=A5 (by omega) (by omega)
  have w3:IntKind.i64.wrap (L - (1+B6 (l.getD (i:Int).toNat default).amount L))=L - (1+B6 (l.getD (i:Int).toNat default).amount L):=A5 (by omega) (by omega)
  have n1:=fun s=>A0f (l.getD (i:Int).toNat default).kind 5 (by decide) (by decide) s
  have n2:=fun s=>P3 (l.getD (i:Int).toNat default).amount L (by omega) (by omega) s
  unfold A3K B1v at hS
  rw [if_pos h3] at hS
  generalize B6 (l.getD (i:Int).toNat default).kind 5=K at *
  generalize B6 (l.getD (i:Int).toNat default).amount L=M at *
  conv=>whnf
  refine ⟨[16,17],[4,5,11,13],List.range 18,by kernel_rfl,?_⟩;conv=>whnf
  refine E7 ?_
  refine ⟨_,fun s _=>⟨rfl,rfl⟩,?_⟩;conv=>whnf
  refine ⟨_,fun s _=>H0 (n1 s),?_⟩;conv=>whnf
  refine E7 ?_
  refine ⟨_,fun s _=>⟨rfl,rfl⟩,?_⟩;conv=>whnf
  refine ⟨_,fun s _=>H0 (n2 s),?_⟩;conv=>whnf
  rw [w1,w2]
  refine B8 (fun h4=>?_) (fun h4=>?_)<;>rw [h4]<;>simp only [D5E,D5D] at h4
  ·rw [if_pos h4] at hS;conv=>whnf
   refine E0.app (q:=r73) (y:=(⟨1+K,1+M⟩:Pay)) rfl rfl rfl rfl rfl rfl (by show (O.length+1) * 16≤140737488355328;omega) hc (fun sv' s' hc'=>?_);conv=>whnf
   rw [w3]
   refine F7 ?_
   exact nx hi' ⟨sv',by rw [B4 (by omega),hS1,hS],by rw [hS1,hS];exact hc'⟩
  ·rw [if_neg h4] at hS;conv=>whnf
   refine F7 ?_
   exact nx hi' ⟨sv,by rw [B4 (by omega),hS1,hS],by rw [hS1,hS];exact hc⟩
 all_goals
  have hend:=hfin (by first | exact .inl (by omega) | exact .inr (.inl (by omega)) | exact .inr (.inr (by omega)))
  subst hend
  have m5:=fun s=>A0f (l.length:Int) 5 (by decide) (by decide) s
  have m6:=C7 (l.length:Int) (n:=5) (by decide)
  have w5:IntKind.i64.wrap (1+B6 (l.length:Int) 5)=1+B6 (l.length:Int) 5:=A5 (by omega) (by omega)
  simp only at hP
  rw [hP]
  generalize B6 (l.length:Int) 5=K at *
  conv=>whnf
  refine B8 (fun h6=>?_) (fun h6=>?_)<;>rw [h6]<;>simp only [D5E,D5D] at h6
  ·rw [if_pos h6];conv=>whnf
   refine I5 (m5 _) ?_
   rw [w5]
   refine E0.app (q:=r73) (y:=(⟨1+K,L⟩:Pay)) rfl rfl rfl rfl rfl rfl (by show (O.length+1) * 16≤140737488355328;omega) hc (fun sv' s' hc'=>?_);conv=>whnf
   exact hc'
  ·rw [if_neg h6];conv=>whnf
   exact hc
theorem B1S (items:List Ab.Item) (adds:List Add) (hi:items.length≤9223372036854775807) (st:St) :
  S P 55 [A8 4 E5 items,A8 2 A4U adds] st fun v st'=>v=.tuple [A8 3 H6 (X2 items adds).1,eI (X2 items adds).2]∧st'=st:=by
 have hB:X2 items adds=if adds.length<1∨adds.length>1000 then ([],2) else if (adds.any A0O)=true then ([],2) else if (adds.any fun x=>decide (P2 items x.sku<0))=true then ([],7) else (adds.map (K0 items),0):=rfl
 refine S.post (post:=fun v s'=>(∃ e,X2 items adds=([],e)∧v=.tuple [.emp,eI e]∧E8 st s')∨(∃ sv,X2 items adds=(adds.map (K0 items),0)∧v=.tuple [sv,eI 0]∧E0 137 3 H6 (adds.map (K0 items)) st sv s')) ?_ (fun v s' hv=>⟨_,st,⟨rfl,rfl⟩,by
  rcases hv with ⟨e,h1,rfl,h2⟩ | ⟨sv,h1,rfl,h2⟩
  ·rw [h1];exact (A7.tuple (A7.cons (I1 3 _) (A7.keep _ _)) rfl).trans (h2.shift _)
  ·rw [h1];exact A7.tuple (A7.cons h2.shift (A7.keep _ _)) rfl⟩)
 refine F2 [] Tryz.func55 ?_
 refine B8 (fun h1=>?_) (fun h1=>?_)<;>rw [h1]<;>simp only [D5E,D5D] at h1
 ·rw [if_pos (.inl (by omega))] at hB;conv=>whnf
  exact .inl ⟨2,hB,rfl,E8.refl _⟩
 conv=>whnf
 refine B8 (fun h2=>?_) (fun h2=>?_)<;>rw [h2]<;>simp only [D5E,D5D] at h2
 ·rw [if_pos (.inr (by omega))] at hB;conv=>whnf
  exact .inl ⟨2,hB,rfl,E8.refl _⟩
 rw [if_neg (by omega)] at hB;conv=>whnf
 refine lp adds.length [0,1,6] (fun i vs t=>(∀ j,j<i→A0O (adds.getD j default)=false)∧vs=[A8 4 E5 items,A8 2 A4U adds,eI i]∧t=st) ?_ ?_
 ·conv=>whnf
  exact ⟨fun j hj=>absurd hj (by omega),rfl,rfl⟩
 rintro i vs t hi' ⟨hno,rfl,rfl⟩
 conv=>whnf
 cases h3:decide ((i:Int)<(adds.length:Int))
 case true =>
  have hi2:=D8 h3
  have hbad:A0O (adds.getD (i:Int).toNat default)=true→X2 items adds=([],2):=fun h=>by
   rw [if_pos (D7i.2 ⟨_,A6 hi2,h⟩)] at hB;exact hB
  conv=>whnf
  refine E7 ?_
  refine B8 (fun h4=>?_) (fun h4=>?_)<;>rw [h4]
  ·conv=>whnf
   exact .inl ⟨2,hbad (by unfold A0O;rw [h4];rfl),rfl,E8.refl _⟩
  conv=>whnf
  refine E7 ?_
  refine B8 (fun h5=>?_) (fun h5=>?_)<;>rw [h5]
  ·conv=>whnf
   exact .inl ⟨2,hbad (by unfold A0O;rw [h5,D6t]),rfl,E8.refl _⟩
  conv=>whnf
  refine F7 ?_
  exact nx hi2 ⟨H8 hno (show A0O (adds.getD (i:Int).toNat default)=false by unfold A0O;rw [h4,h5];rfl),by rw [B4 (by omega)],rfl⟩
 obtain rfl:=C4 h3 hi'
 rw [if_neg (by
  rw [D6D,D6E]
  intro x hx
  obtain ⟨j,hj,rfl⟩:=D3 hx
  rw [hno j hj];simp)] at hB
 conv=>whnf
 refine lp adds.length [0,1,7,8] (fun i vs s=>∃ sv,(∀ j,j<i→(fun x:Add=>decide (P2 items x.sku<0)) (adds.getD j default)=false)∧vs=[A8 4 E5 items,A8 2 A4U adds,sv,eI i]∧E0 137 3 H6 ((adds.take i).map (K0 items)) t sv s) ?_ ?_
 ·conv=>whnf
  exact ⟨.emp,fun j hj=>absurd hj (by omega),rfl,E0.start _ _ _ _⟩
 rintro i vs s hi2 ⟨sv,hno2,rfl,hc⟩
 conv=>whnf
 cases h4:decide ((i:Int)<(adds.length:Int))
 case false =>
  obtain rfl:=C4 h4 hi2
  rw [D5N] at hc
  rw [if_neg (by
   rw [D6D,D6E]
   intro x hx
   obtain ⟨j,hj,rfl⟩:=D3 hx
   have:=hno2 j hj
   simp only at this
   rw [this];simp)] at hB
  conv=>whnf
  exact .inr ⟨sv,hB,rfl,hc⟩
 have hi3:=D8 h4
 have hF:=fun u=>B4K items (adds.getD (i:Int).toNat default).sku hi u
 have hln:((adds.take i).map (K0 items)).length=i:=by rw [D5H,D5M];omega
 have htk:(adds.take (i+1)).map (K0 items)=(adds.take i).map (K0 items)++[K0 items (adds.getD (i:Int).toNat default)]:=by rw [K4 hi3,D6g];rfl
 have hrng:=A9f (fun x:Ab.Item=>x.sku.toList==(adds.getD (i:Int).toNat default).sku.toList) items
 have hAL:K0 items (adds.getD (i:Int).toNat default)=⟨(adds.getD (i:Int).toNat default).sku,(adds.getD (i:Int).toNat default).qty,(items.getD (P2 items (adds.getD (i:Int).toNat default).sku).toNat default).price⟩:=rfl
 have hno3:=fun h=>H8 (q:=fun j=>(fun x:Add=>decide (P2 items x.sku<0)) (adds.getD j default)=false) hno2 h
 have hpos:(fun x:Add=>decide (P2 items x.sku<0)) (adds.getD (i:Int).toNat default)=true→X2 items adds=([],7):=fun h=>by
  rw [if_pos (D7i.2 ⟨_,A6 hi3,h⟩)] at hB;exact hB
 have hf0:P2 items (adds.getD (i:Int).toNat default).sku=P2 items (adds.getD i default).sku:=rfl
 simp only at hpos hno3
 rw [←hf0] at hno3
 generalize hfv:P2 items (adds.getD (i:Int).toNat default).sku=FV at hF hpos hno3 hAL
 have hrng2 : -1≤FV∧FV<items.length:=by rw [←hfv];exact hrng
 conv=>whnf
 refine E7 ?_
 refine I5 (hF _) ?_
 refine B8 (fun h5=>?_) (fun h5=>?_)<;>rw [h5]
 ·conv=>whnf
  exact .inl ⟨7,hpos h5,rfl,hc.sup⟩
 have h5':=D5G h5
 conv=>whnf
 refine ⟨[17,18],[],List.range 20,by kernel_rfl,?_⟩;conv=>whnf
 refine E7 ?_
 refine E7 ?_
 refine E7 ?_
 refine E0.app (y:=K0 items (adds.getD (i:Int).toNat default)) (q:=C3T) rfl rfl rfl rfl rfl (by rw [hAL];rfl) (by rw [hln];show (i+1) * 32≤140737488355328;omega) hc (fun sv' t' hc'=>?_);conv=>whnf
 refine F7 ?_
 exact nx hi3 ⟨sv',hno3 h5,by rw [B4 (by omega)],by rw [htk];exact hc'⟩
def A1d (x:Add):Add:=⟨A1l (A2M x.sku),1+B6 x.qty 9⟩
def J2 (l:List Add):List Add:=if l.length=0 then [⟨⟨#[97]⟩,2⟩] else (l.take 6).map A1d
theorem B8h (l:List Add) (st:St):S P 54 [A8 2 A4U l] st fun v st'=>v=A8 2 A4U (J2 l)∧st'=st:=by
 refine S.post (post:=fun v s=>(l.length≠0∧E0 57 2 A4U ((l.take 6).map A1d) st v s)∨(l.length=0∧s=st∧∃ F:Nat→AV,F 0=A4U ⟨⟨#[97]⟩,2⟩∧v=.arr 2 1 F)) ?_ (fun v s hv=>⟨_,st,⟨rfl,rfl⟩,by
  unfold J2
  rcases hv with ⟨h,hc⟩ | ⟨h,rfl,F,hF,rfl⟩
  ·rw [if_neg h];exact hc.shift
  ·rw [if_pos h]
   exact A7.arr fun i hi=>by
    have:i=0:=by omega
    subst this;exact hF⟩)
 refine F2 [] Tryz.func54 ?_
 refine lp (min l.length 6) [0,3,4] (fun i vs s=>∃ sv,vs=[A8 2 A4U l,sv,eI i]∧E0 57 2 A4U ((l.take i).map A1d) st sv s) ?_ ?_
 ·conv=>whnf
  exact ⟨.emp,rfl,E0.start _ _ _ _⟩
 rintro i vs s hi ⟨sv,rfl,hc⟩
 have hfin:i=min l.length 6→(l.take i).map A1d=(l.take 6).map A1d:=fun e=>by
  rcases Nat.le_total l.length 6 with h | h
  ·rw [show i=l.length by omega,D5N,D7w h]
  ·rw [show i=6 by omega]
 have hlen:((l.take i).map A1d).length=i:=by rw [D5H,D5M];omega
 conv=>whnf
 refine B8 (fun h1=>?_) (fun h1=>?_)<;>rw [h1]<;>simp only [D5E,D5D] at h1
 case' refine_1 =>
  conv=>whnf
  refine B8 (fun h2=>?_) (fun h2=>?_)<;>rw [h2]<;>simp only [D5E,D5D] at h2
 case' refine_1.refine_1 =>
  have hi':i<min l.length 6:=by omega
  have htk:(l.take (i+1)).map A1d=(l.take i).map A1d++[A1d (l.getD (i:Int).toNat default)]:=A1N (by omega) A1d
  have hm:=C7 (l.getD (i:Int).toNat default).qty (n:=9) (by decide)
  have hw:IntKind.i64.wrap (1+B6 (l.getD (i:Int).toNat default).qty 9)=1+B6 (l.getD (i:Int).toNat default).qty 9:=A5 (by omega) (by omega)
  conv=>whnf
  refine ⟨[16,17],[],List.range 19,by kernel_rfl,?_⟩;conv=>whnf
  refine E7 ?_
  refine cqW (B1x (l.getD (i:Int).toNat default).sku _) ?_
  refine cqW (C4p (A2M (l.getD (i:Int).toNat default).sku) _) ?_
  refine E7 ?_
  refine cqW (A0f (l.getD (i:Int).toNat default).qty 9 (by decide) (by decide) _) ?_
  refine E0.app (q:=r57) (y:=A1d (l.getD (i:Int).toNat default)) rfl rfl rfl rfl rfl (by show AV.agg [_,AV.int _ (IntKind.i64.wrap (1+B6 (l.getD (i:Int).toNat default).qty 9))]=_;rw [hw];rfl) (by rw [hlen];show (i+1) * 24≤140737488355328;omega) hc (fun sv' s' hc'=>?_);conv=>whnf
  refine F7 ?_
  exact nx hi' ⟨sv',by rw [B4 (by omega)],by rw [htk];exact hc'⟩
 all_goals
  have hend:=hfin (by omega)
  rw [hend] at hc hlen
  rcases hc with ⟨hn,rfl,rfl⟩ | ⟨hn,b,g,hb,rfl,rfl,hg⟩
 case' refine_1.refine_2.inl | refine_2.inl =>
  conv=>whnf
  exact .inr ⟨by omega,rfl,_,rfl,rfl⟩
 case' refine_1.refine_2.inr | refine_2.inr =>
  have hz:(((((l.take 6).map A1d).length:Nat):Int)==0)=false:=by rw [D6o];omega
  conv=>whnf
  rw [hz];conv=>whnf
  exact .inl ⟨by omega,.inr ⟨hn,b,g,hb,rfl,rfl,hg⟩⟩
end Go.Proofs.YtaapofnkmpiknaaGreat
namespace Go.Ab
open Go
theorem C1t {w:World} {st st':St} (h:∀ b,st b=none↔st' b=none):A3y w st=A3y w st':=by
 funext a
 unfold A3y
 cases h1:st a.block with
 | none=>rw [(h _).1 h1]
 | some x =>
  cases h2:st' a.block with
  | none=>rw [(h _).2 h2] at h1;cases h1
  | some y=>rfl
theorem A7.cellG {vs:List AV} {st st2:St} {a i:Nat} {y:K7} {sv v' w':AV} {pre post:List AV} (h:A7 [sv] st [v'] st2) (hy:st a=some y) (hy2:st2 a=some y) (hi:i<y.n)
  (hf:cellsOf (y.f i)=pre++sv::post) (hw:cellsOf w'=pre++v'::post) (h1:v'.one=true):A7 vs st vs (upd st2 a { y with f:=I3 y.f i w' }):=fun w cs hS hR=>by
 obtain ⟨ds,hok⟩:=hS a y hy
 obtain ⟨c,hc1,hc2⟩:=hok.cell i pre.length sv hi (by rw [hf];show (pre++sv::post)[pre.length]?=some sv;simp)
 obtain ⟨hS2,hR2,hE⟩:=h w #[c] hS ⟨rfl,fun k z c' hz hc'=>by
  cases k with
  | zero=>simp at hz hc';subst hz;subst hc';exact hc2
  | succ k=>simp at hz⟩
 have hv:M0 w st2 v' c:=hR2.2 0 v' c rfl rfl
 have e:A3y w (upd st2 a { y with f:=I3 y.f i w' })=A3y w st2:=C1t fun b=>by
  by_cases eb:b=a
  ·subst eb;rw [A0,hy2];constructor<;>(intro h0;cases h0)
  ·rw [A9 eb]
 have hrep:∀ v c,M0 w st2 v c→M0 w (upd st2 a { y with f:=I3 y.f i w' }) v c:=fun v c hv=>by
  show Rep (A3y w _) _ _ _
  rw [e];exact hv
 refine ⟨fun b x hb=>?_,⟨hR.1,fun k y c hy hc=>hrep _ _ (hE.rep (hR.2 k y c hy hc))⟩,⟨hE.os,hE.tape,hE.output,hE.size,fun b hb hn=>⟨(hE.blk b hb hn).1,?_⟩,hE.szm⟩⟩
 ·by_cases eb:b=a
  ·subst eb
   rw [A0] at hb;cases hb
   obtain ⟨ds2,hok2⟩:=hS2 b y hy2
   have hds:ds2=ds:=by
    have h3:=hok2.heap
    rw [hok.heap] at h3
    cases h3;rfl
   subst hds
   have hlen:=hok2.len i hi
   have hone:=hok2.one i hi
   rw [hf] at hlen hone
   refine ⟨ds2,hok2.heap,hok2.size,fun k hk=>?_,fun k hk=>?_,fun k m z hk hz=>?_⟩
   ·by_cases ek:k=i
    ·subst ek
     show (cellsOf (I3 y.f k _ k)).length=y.e
     unfold I3;rw [if_pos rfl,←hlen]
     show (cellsOf w').length=(pre++sv::post).length
     rw [hw]
     simp
    ·show (cellsOf (I3 y.f i _ k)).length=y.e
     unfold I3;rw [if_neg ek];exact hok2.len k hk
   ·by_cases ek:k=i
    ·subst ek
     show (cellsOf (I3 y.f k _ k)).all AV.one=true
     unfold I3;rw [if_pos rfl]
     have hone':(pre++sv::post).all AV.one=true:=hone
     show (cellsOf w').all AV.one=true
     rw [hw]
     simp only [List.all_append,List.all_cons,D5I] at hone' ⊢
     exact ⟨hone'.1,h1,hone'.2.2⟩
    ·show (cellsOf (I3 y.f i _ k)).all AV.one=true
     unfold I3;rw [if_neg ek];exact hok2.one k hk
   ·have hz:(cellsOf (I3 y.f i w' k))[m]?=some z:=hz
    unfold I3 at hz
    by_cases ek:k=i
    ·subst ek
     rw [if_pos rfl] at hz
     have hz:(pre++v'::post)[m]?=some z:=by rw [←hw];exact hz
     by_cases em:m=pre.length
     ·subst em
      simp at hz
      subst hz
      exact ⟨c,hc1,hrep _ _ hv⟩
     ·have e3:(pre++sv::post)[m]?=some z:=by
       rw [←hz]
       by_cases hm:m<pre.length
       ·rw [D6a hm,D6a hm]
       ·rw [D5Z (by omega),D5Z (by omega)]
        obtain ⟨q,hq⟩:∃ q,m - pre.length=q+1:=⟨m - pre.length - 1,by omega⟩
        rw [hq];rfl
      obtain ⟨c',k1,k2⟩:=hok2.cell k m z hk (by rw [hf];exact e3)
      exact ⟨c',k1,hrep _ _ k2⟩
    ·rw [if_neg ek] at hz
     obtain ⟨c',k1,k2⟩:=hok2.cell k m z hk hz
     exact ⟨c',k1,hrep _ _ k2⟩
  ·rw [A9 eb] at hb
   obtain ⟨ds2,hok2⟩:=hS2 b x hb
   exact ⟨ds2,hok2.heap,hok2.size,hok2.len,hok2.one,fun k m z hk hz=>by
    obtain ⟨c',k1,k2⟩:=hok2.cell k m z hk hz
    exact ⟨c',k1,hrep _ _ k2⟩⟩
 ·have:=(hE.blk b hb hn).2
  have eb:b≠a:=fun h=>by rw [h,hy] at hn;cases hn
  rw [A9 eb];exact this
theorem A7.cell {vs:List AV} {st st2:St} {a i:Nat} {y:K7} {sv v':AV} {pre post:List AV} (h:A7 [sv] st [v'] st2) (hy:st a=some y) (hy2:st2 a=some y) (hi:i<y.n)
  (hf:y.f i=.agg (pre++sv::post)) (h1:v'.one=true):A7 vs st vs (upd st2 a { y with f:=I3 y.f i (.agg (pre++v'::post)) }) :=
 A7.cellG h hy hy2 hi (by rw [hf];rfl) rfl h1
end Go.Ab
namespace Go.Proofs.YtaapofnkmpiknaaGreat
open Go Go.Ab
attribute [local irreducible] upd del
theorem A7.pre {a b:List AV} {s t:St} (h:A7 a s b t):∀ l:List AV,A7 (l++a) s (l++b) t
 | []=>h
 | x::l=>A7.cons (A7.keep [x] s) (A7.pre h l)
abbrev B4j (l:List A2n):Nat→AV:=fun k=>W1 (l.getD k default)
theorem ROut.put {ty e n b:Nat} {fo:Nat→AV} {s t:St} {sv:AV} {y:K7} (h:ROut E8 ty e fo n (upd s b y) sv t) (y':K7):ROut E8 ty e fo n (upd s b y') sv (upd t b y'):=by
 have:=ROut.write (y':=y') J4 h (A0 ..)
 rwa [C0] at this
theorem B1y {l:List A2n} (h:l.length=0):P7 l=[⟨⟨[],[]⟩,2⟩]:=if_pos h
theorem B1z {l:List A2n} (h:l.length≠0):P7 l=(l.take 3).map Z5:=if_neg h
theorem C6g {l:List A2n} {i:Nat} (hi:i<min l.length 3):((l.take 3).map Z5).getD i default=Z5 (l.getD i default):=by
 rw [D5C,D6B,D5Q (by omega),D5K (by omega),D5C,D5K (by omega)];rfl
set_option maxHeartbeats 80000000 in
theorem B6k (p:B1) (id:Int) (st:St):S P 156 [B7 p,eI id] st fun v st'=>v=B7 (A2c p id)∧st'=st:=by
 refine S.post (post:=fun v s=>(∃ W,v=.agg W∧E8 st s∧F1 W (cellsOf (B7 (A2c p id))))∨∃ (pre:List AV) (sv fin:AV) (base:St),v=.agg (pre++[sv,fin])∧A7 [sv] s [A8 3 W1 (P7 p.parts)] base∧E8 st base∧F1 (pre++[A8 3 W1 (P7 p.parts),fin]) (cellsOf (B7 (A2c p id)))) ?_ (fun v s h=>⟨_,st,⟨rfl,rfl⟩,by
   rcases h with ⟨W,h1,h3,h4⟩ | ⟨pre,sv,fin,base,h1,h2,h3,h4⟩
   ·rw [h1];exact (Le.shift (Le.agg h4) _).trans (h3.shift _)
   ·rw [h1]
    refine (A7.agg (A7.pre (A7.cons h2 (A7.keep [fin] _)) pre)).trans ?_
    exact (Le.shift (Le.agg h4) _).trans (h3.shift _)⟩)
 have hScope:=fun s=>B6q p.scope s
 obtain ⟨SC,hSC⟩:∃ SC,SC=Q4 p.scope:=⟨_,rfl⟩
 rw [←hSC] at hScope
 have hId:=fun s=>D2X id s
 obtain ⟨I,hI⟩:∃ I,I=idN id:=⟨_,rfl⟩
 rw [←hI] at hId
 have hPr:=fun s=>A0f p.prio 5 (by decide) (by decide) s
 obtain ⟨PR,hPR⟩:∃ PR,PR=B6 p.prio 5:=⟨_,rfl⟩
 rw [←hPR] at hPr
 have hKd:=fun s=>A0f (IntKind.i64.wrap (p.kind - 1)) 7 (by decide) (by decide) s
 have hkm:=C7 (IntKind.i64.wrap (p.kind - 1)) (n:=7) (by decide)
 have hkw:IntKind.i64.wrap (1+B6 (IntKind.i64.wrap (p.kind - 1)) 7)=A3v p:=A5 (by omega) (by omega)
 have hK:=A6f p
 have hP:A2c p id=P4 p id (A3v p):=rfl
 rw [hP]
 generalize A3v p=K at hK hkw ⊢
 clear hP
 generalize B6 (IntKind.i64.wrap (p.kind - 1)) 7=KD at hKd hkw
 obtain ⟨G,hG⟩:∃ G,G=A2b p:=⟨_,rfl⟩
 obtain ⟨C,hC⟩:∃ C,C=A3u p:=⟨_,rfl⟩
 obtain ⟨L,hL⟩:∃ L,L=A3e p:=⟨_,rfl⟩
 have wr:IntKind.i64.wrap (1+B6 p.rate 10000)=1+B6 p.rate 10000:=by have:=C7 p.rate (n:=10000) (by decide);exact A5 (by omega) (by omega)
 have wa:IntKind.i64.wrap (1+B6 p.amount 900)=1+B6 p.amount 900:=by have:=C7 p.amount (n:=900) (by decide);exact A5 (by omega) (by omega)
 have wb:IntKind.i64.wrap (1+B6 p.buy 3)=1+B6 p.buy 3:=by have:=C7 p.buy (n:=3) (by decide);exact A5 (by omega) (by omega)
 have wg:IntKind.i64.wrap (1+B6 p.get 2)=1+B6 p.get 2:=by have:=C7 p.get (n:=2) (by decide);exact A5 (by omega) (by omega)
 have hT5:=fun s=>A9M p.tiers 5000 (by decide) (by decide) s
 obtain ⟨TS,hTS⟩:∃ TS,TS=P8 p.tiers 5000:=⟨_,rfl⟩
 rw [←hTS] at hT5
 have hT6:=fun s=>A9M p.tiers 5 (by decide) (by decide) s
 obtain ⟨TU,hTU⟩:∃ TU,TU=P8 p.tiers 5:=⟨_,rfl⟩
 rw [←hTU] at hT6
 have hA3:=fun s=>P3 p.amount 3000 (by decide) (by decide) s
 obtain ⟨A3,hA⟩:∃ A3,A3=B6 p.amount 3000:=⟨_,rfl⟩
 rw [←hA] at hA3
 refine F2 [2] Tryz.func156 ?_
 intro b4 hb4;conv=>whnf
 refine ⟨[16,17],[1,3,5,8,9,11,13,14],List.range 18,by kernel_rfl,?_⟩;conv=>whnf
 refine ⟨_,fun s _=>H0 (hId s),?_⟩;conv=>whnf
 refine ⟨_,fun s _=>⟨rfl,rfl⟩,?_⟩;conv=>whnf
 refine ⟨_,fun s _=>H0 (hKd s),?_⟩;conv=>whnf
 refine ⟨_,fun s _=>⟨rfl,rfl⟩,?_⟩;conv=>whnf
 refine ⟨_,fun s _=>H0 (hPr s),?_⟩;conv=>whnf
 refine ⟨_,fun s _=>⟨rfl,rfl⟩,?_⟩;conv=>whnf
 refine ⟨_,fun s _=>⟨rfl,rfl⟩,?_⟩;conv=>whnf
 refine ⟨_,fun s _=>H0 (hScope s),?_⟩;conv=>whnf
 intro b5 hb5
 have hne:b4≠b5:=fun e=>by subst e;rw [A0] at hb5;cases hb5
 conv=>whnf
 refine stU (A0 ..) rfl ?_
 rw [C0,hkw]
 have hst:∀ Y:K7,E8 st (upd (upd st b4 ⟨206,15,1,fun _=>H2 B8o.zero⟩) b5 Y):=fun Y=>((E8.refl st).upd hb4).upd hb5
 conv=>whnf
 refine I5 (B1x _ _) ?_
 refine I5 (A0f _ 3 (by decide) (by decide) _) ?_
 cases hg:(B6 (A2M p.group) 3==1)
 case' true =>
  have hgv:(⟨#[103]⟩:C8)++B2d ([]++[IntKind.u8.wrap (48+IntKind.u8.wrap (B6 p.group.size 2))])=G:=by rw [hG,B2n];exact (if_pos (by simpa using hg)).symm
  conv=>whnf
  refine I5 (A0f _ 2 (by decide) (by decide) _) ?_
  rw [hgv]
  refine stU (A0 ..) (A4 ..) ?_
  rw [C0]
 case' false =>
  have hG0:(⟨#[]⟩:C8)=G:=by rw [hG];exact (if_neg (by simpa using hg)).symm
 all_goals
  conv=>whnf
  refine I5 (B1x _ _) ?_
  refine I5 (A0f _ 3 (by decide) (by decide) _) ?_
  cases hcd:(B6 (A2M p.code) 3==1)
  case' true =>
   have hcv:A5p p.code.size=C:=by rw [hC];exact (if_pos (by simpa using hcd)).symm
   conv=>whnf
   refine I5 (C2T _ _) ?_
   rw [hcv]
   refine stU (A0 ..) (A4 ..) ?_
   rw [C0]
  case' false =>
   have hC0:(⟨#[]⟩:C8)=C:=by rw [hC];exact (if_neg (by simpa using hcd)).symm
  all_goals
   conv=>whnf
   refine I5 (P3 _ 3 (by decide) (by decide) _) ?_
   cases hl:(B6 p.least 3==1)
   case' true =>
    have hlv:B6 p.least 9000=L:=by rw [hL];exact (if_pos (by simpa using hl)).symm
    conv=>whnf
    refine I5 (P3 _ 9000 (by decide) (by decide) _) ?_
    rw [hlv]
    refine stU (A0 ..) (A4 ..) ?_
    rw [C0]
   case' false =>
    have hL0:(0:Int)=L:=by rw [hL];exact (if_neg (by simpa using hl)).symm
   all_goals
    conv=>whnf
    refine ldV (A0 ..) rfl (by omega) (A4 ..) ?_
    rcases (show K=1∨K=2∨K=3∨K=4∨K=5∨K=6∨K=7 by omega) with rfl | rfl | rfl | rfl | rfl | rfl | rfl
    ·rw [show cellsOf (B7 (P4 p id 1))=[eS (I),eI 1,eI (PR),eS (G),eS (C),eB p.closes,C9 (SC).skus,C9 (SC).cats,eI (L),eI (1+B6 p.rate 10000),eI 0,eI 0,eI 0,A8 3 W1 [],A8 3 S3 []] from by rw [hI,hPR,hG,hC,hL,hSC];rfl]
     (try subst hG0);(try subst hC0);(try subst hL0)
     conv=>whnf
     refine I5 (P3 _ 10000 (by decide) (by decide) _) ?_
     rw [wr]
     refine stU (A0 ..) (A4 ..) ?_
     rw [C0];conv=>whnf
     refine J0 (A0 ..) (A4 ..) ?_
     refine Y9 (by rw [A9 hne];exact A0 ..) rfl ?_
     refine J0 (A0 ..) (A4 ..) ?_
     exact .inl ⟨_,rfl,(hst _).over hb4,F1.cons (Le.refl _) (F1.cons (Le.refl _) (F1.cons (Le.refl _) (F1.cons (Le.refl _) (F1.cons (Le.refl _) (F1.cons (Le.refl _) (F1.cons (Le.refl _) (F1.cons (Le.refl _) (F1.cons (Le.refl _) (F1.cons (Le.refl _) (F1.cons (Le.refl _) (F1.cons (Le.refl _) (F1.cons (Le.refl _) (F1.cons (Le.emp _ _) (F1.cons (Le.emp _ _) (F1.nil)))))))))))))))⟩
    ·rw [show cellsOf (B7 (P4 p id 2))=[eS (I),eI 2,eI (PR),eS (G),eS (C),eB p.closes,C9 (SC).skus,C9 (SC).cats,eI (L),eI 0,eI (1+B6 p.amount 900),eI 0,eI 0,A8 3 W1 [],A8 3 S3 []] from by rw [hI,hPR,hG,hC,hL,hSC];rfl]
     (try subst hG0);(try subst hC0);(try subst hL0)
     conv=>whnf
     refine I5 (P3 _ 900 (by decide) (by decide) _) ?_
     rw [wa]
     refine stU (A0 ..) (A4 ..) ?_
     rw [C0];conv=>whnf
     refine J0 (A0 ..) (A4 ..) ?_
     refine Y9 (by rw [A9 hne];exact A0 ..) rfl ?_
     refine J0 (A0 ..) (A4 ..) ?_
     exact .inl ⟨_,rfl,(hst _).over hb4,F1.cons (Le.refl _) (F1.cons (Le.refl _) (F1.cons (Le.refl _) (F1.cons (Le.refl _) (F1.cons (Le.refl _) (F1.cons (Le.refl _) (F1.cons (Le.refl _) (F1.cons (Le.refl _) (F1.cons (Le.refl _) (F1.cons (Le.refl _) (F1.cons (Le.refl _) (F1.cons (Le.refl _) (F1.cons (Le.refl _) (F1.cons (Le.emp _ _) (F1.cons (Le.emp _ _) (F1.nil)))))))))))))))⟩
    ·rw [show cellsOf (B7 (P4 p id 3))=[eS (I),eI 3,eI (PR),eS (G),eS (C),eB p.closes,C9 (SC).skus,C9 (SC).cats,eI (L),eI (1+B6 p.rate 10000),eI 0,eI (1+B6 p.buy 3),eI (1+B6 p.get 2),A8 3 W1 [],A8 3 S3 []] from by rw [hI,hPR,hG,hC,hL,hSC];rfl]
     (try subst hG0);(try subst hC0);(try subst hL0)
     conv=>whnf
     refine ⟨[13,15,17],[],List.range 18,by kernel_rfl,?_⟩;conv=>whnf
     refine cqW (P3 _ 10000 (by decide) (by decide) _) ?_
     rw [wr]
     refine cqW (A0f _ 3 (by decide) (by decide) _) ?_
     rw [wb]
     refine cqW (A0f _ 2 (by decide) (by decide) _) ?_
     rw [wg]
     refine stU (A0 ..) (A4 ..) ?_
     rw [C0];conv=>whnf
     refine stU (A0 ..) (A4 ..) ?_
     rw [C0];conv=>whnf
     refine stU (A0 ..) (A4 ..) ?_
     rw [C0];conv=>whnf
     refine J0 (A0 ..) (A4 ..) ?_
     refine Y9 (by rw [A9 hne];exact A0 ..) rfl ?_
     refine J0 (A0 ..) (A4 ..) ?_
     exact .inl ⟨_,rfl,(hst _).over hb4,F1.cons (Le.refl _) (F1.cons (Le.refl _) (F1.cons (Le.refl _) (F1.cons (Le.refl _) (F1.cons (Le.refl _) (F1.cons (Le.refl _) (F1.cons (Le.refl _) (F1.cons (Le.refl _) (F1.cons (Le.refl _) (F1.cons (Le.refl _) (F1.cons (Le.refl _) (F1.cons (Le.refl _) (F1.cons (Le.refl _) (F1.cons (Le.emp _ _) (F1.cons (Le.emp _ _) (F1.nil)))))))))))))))⟩
    ·rw [show cellsOf (B7 (P4 p id 4))=[eS (I),eI 4,eI (PR),eS (G),eS (C),eB p.closes,C9 [],C9 [],eI (L),eI 0,eI (A3),eI 0,eI 0,A8 3 W1 (P7 p.parts),A8 3 S3 []] from by rw [hI,hPR,hG,hC,hL,hA];rfl];conv=>whnf
     refine I5 (hA3 _) ?_
     refine stU (A0 ..) (A4 ..) ?_
     rw [C0];conv=>whnf
     refine stU (A0 ..) (A4 ..) ?_
     rw [C0];conv=>whnf
     refine lp (min p.parts.length 3) [2,4,5,6] (fun i vs s=>∃ sv f,vs=[.fptr (B7 p) 0,.optr 15 b4 0 0,.optr 15 b5 0 0,eI i]∧f 0=.agg ([eS I,eI 4,eI PR,eS G,eS C,eB p.closes,.emp,.emp,eI L,eI 0,eI A3,eI 0,eI 0]++[sv,.emp])∧ROut E8 259 3 (B4j ((p.parts.take 3).map Z5)) i (upd (upd st b4 ⟨206,15,1,fun _=>H2 B8o.zero⟩) b5 ⟨206,15,1,f⟩) sv s) ?_ ?_
     ·conv=>whnf
      exact ⟨.emp,_,rfl,by (try rw [←hG0]);(try rw [←hC0]);(try rw [←hL0]);first | rfl | (rw [A4];rfl),ROut.start (E8.refl _) _ _ _⟩
     ·rintro i vs s hi ⟨sv,f,rfl,hf,hR⟩
      have hsup:=ROut.sup J4 hR
      have at5:s b5=some ⟨206,15,1,f⟩:=hsup b5 _ (A0 ..)
      have at4:s b4=some ⟨206,15,1,fun _=>H2 B8o.zero⟩:=hsup b4 _ (by rw [A9 hne];exact A0 ..)
      have n5:st b5=none:=by rw [A9 (Ne.symm hne)] at hb5;exact hb5
      conv=>whnf
      refine B8 (fun h1=>?_) (fun h1=>?_)<;>rw [h1]<;>simp only [D5E,D5D] at h1
      case' refine_1 =>
       conv=>whnf
       refine B8 (fun h2=>?_) (fun h2=>?_)<;>rw [h2]<;>simp only [D5E,D5D] at h2
      case refine_1.refine_1 =>
       have hi':i<min p.parts.length 3:=by omega
       have hsc2:=fun s=>B6q (p.parts.getD (i:Int).toNat default).scope s
       have hpa:=C6g hi'
       have hm2:=C7 (p.parts.getD (i:Int).toNat default).count (n:=2) (by decide)
       have wc:IntKind.i64.wrap (1+B6 (p.parts.getD (i:Int).toNat default).count 2)=1+B6 (p.parts.getD (i:Int).toNat default).count 2:=A5 (by omega) (by omega)
       have hpp:W1 (Z5 (p.parts.getD i default))=.agg [C9 (Q4 (p.parts.getD (i:Int).toNat default).scope).skus,C9 (Q4 (p.parts.getD (i:Int).toNat default).scope).cats,eI (1+B6 (p.parts.getD (i:Int).toNat default).count 2)]:=rfl
       generalize Q4 (p.parts.getD (i:Int).toNat default).scope=S2 at hsc2 hpp
       rcases ROut.head hR with rfl | ⟨bp,rfl⟩
       all_goals
        conv=>whnf
        refine ⟨[19,21],[15],List.range 22,by kernel_rfl,?_⟩;conv=>whnf
        refine J0 at5 hf ?_
        refine E7 ?_
        refine cqW (hsc2 _) ?_
        refine E7 ?_
        refine ⟨_,fun s _=>H0 (A0f _ 2 (by decide) (by decide) s),?_⟩;conv=>whnf
        rw [wc]
        refine ⟨_,⟨rfl,rfl⟩,?_⟩;conv=>whnf
        refine ROut.app (q:=C8o) J4 rfl rfl rfl rfl rfl (f:=B4j ((p.parts.take 3).map Z5)) (by show _=W1 _;rw [hpa,hpp];rfl) (by show (i+1) * 56≤140737488355328;omega) hR (fun sv' t2 hR2=>?_)
        have at5':t2 b5=some ⟨206,15,1,f⟩:=ROut.sup J4 hR2 b5 _ (A0 ..)
        rcases ROut.head hR2 with rfl | ⟨bp',rfl⟩
        all_goals
         conv=>whnf
         refine Y9 at5' hf ?_
         refine F7 ?_
         exact nx hi' ⟨_,_,by rw [B4 (by omega)],(by rw [A4];rfl),ROut.put hR2 _⟩
      all_goals
       have hie:i=min p.parts.length 3:=by omega
       obtain ⟨s0,hcol,hss⟩:=hR
       rcases hcol with ⟨h0,rfl,rfl⟩ | ⟨h0,bp,g,hbp,rfl,rfl,hgg⟩
       ·have hPP:=B1y (l:=p.parts) (by omega)
        subst h0
        rw [hPP];conv=>whnf
        refine J0 at5 hf ?_
        refine Y9 at5 hf ?_
        refine J0 (A0 ..) (A4 ..) ?_
        refine Y9 (by rw [A9 hne];exact at4) rfl ?_
        refine J0 (A0 ..) (A4 ..) ?_
        exact .inl ⟨_,rfl,((((E8.refl st).upd hb4).upd hb5).trans hss |>.over n5).over hb4,F1.cons (Le.refl _) (F1.cons (Le.refl _) (F1.cons (Le.refl _) (F1.cons (Le.refl _) (F1.cons (Le.refl _) (F1.cons (Le.refl _) (F1.cons (Le.emp _ _) (F1.cons (Le.emp _ _) (F1.cons (Le.refl _) (F1.cons (Le.refl _) (F1.cons (Le.refl _) (F1.cons (Le.refl _) (F1.cons (Le.refl _) (F1.cons (Le.arr1 (F1.cons (Le.emp _ _) (F1.cons (Le.emp _ _) (F1.cons (Le.refl _) F1.nil))) rfl) (F1.cons (Le.emp _ _) (F1.nil)))))))))))))))⟩
       ·have hPP:=B1z (l:=p.parts) (by omega)
        have hAP:A8 3 W1 (P7 p.parts)=.arr 3 i (B4j ((p.parts.take 3).map Z5)):=by unfold A8;rw [hPP,show ((p.parts.take 3).map Z5).length=i by rw [D5H,D5M];omega]
        have hR3:ROut E8 259 3 (B4j ((p.parts.take 3).map Z5)) i (upd (upd st b4 ⟨206,15,1,fun _=>H2 B8o.zero⟩) b5 ⟨206,15,1,f⟩) (.own 3 bp 0 i) s:=⟨_,.inr ⟨h0,bp,g,hbp,rfl,rfl,hgg⟩,hss⟩
        conv=>whnf
        refine J0 at5 hf ?_
        rw [show ((i:Int)==0)=false by rw [D6o];omega];conv=>whnf
        refine J0 at5 hf ?_
        refine Y9 at4 rfl ?_
        refine J0 (A0 ..) (A4 ..) ?_
        obtain ⟨base,hsh,hsb⟩:=ROut.shift J4 (ROut.write J4 hR3 (b:=b4) (by rw [A9 hne];exact A0 ..))
        refine .inr ⟨[eS I,eI 4,eI PR,eS G,eS C,eB p.closes,.emp,.emp,eI L,eI 0,eI A3,eI 0,eI 0],.own 3 bp 0 i,.emp,base,rfl,by rw [hAP];exact hsh,((((E8.refl st).upd hb4).upd hb5).over hb4).trans hsb,F1.cons (Le.refl _) (F1.cons (Le.refl _) (F1.cons (Le.refl _) (F1.cons (Le.refl _) (F1.cons (Le.refl _) (F1.cons (Le.refl _) (F1.cons (Le.emp _ _) (F1.cons (Le.emp _ _) (F1.cons (Le.refl _) (F1.cons (Le.refl _) (F1.cons (Le.refl _) (F1.cons (Le.refl _) (F1.cons (Le.refl _) (F1.cons (Le.refl _) (F1.cons (Le.emp _ _) (F1.nil)))))))))))))))⟩
    ·rw [show cellsOf (B7 (P4 p id 5))=[eS (I),eI 5,eI (PR),eS (G),eS (C),eB p.closes,C9 (SC).skus,C9 (SC).cats,eI (L),eI 0,eI 0,eI 0,eI 0,A8 3 W1 [],A8 3 S3 (TS)] from by rw [hI,hPR,hG,hC,hL,hSC,hTS];rfl]
     (try subst hG0);(try subst hC0);(try subst hL0)
     conv=>whnf
     refine I5 (hT5 _) ?_
     refine stU (A0 ..) (A4 ..) ?_
     rw [C0];conv=>whnf
     refine J0 (A0 ..) (A4 ..) ?_
     refine Y9 (by rw [A9 hne];exact A0 ..) rfl ?_
     refine J0 (A0 ..) (A4 ..) ?_
     exact .inl ⟨_,rfl,(hst _).over hb4,F1.cons (Le.refl _) (F1.cons (Le.refl _) (F1.cons (Le.refl _) (F1.cons (Le.refl _) (F1.cons (Le.refl _) (F1.cons (Le.refl _) (F1.cons (Le.refl _) (F1.cons (Le.refl _) (F1.cons (Le.refl _) (F1.cons (Le.refl _) (F1.cons (Le.refl _) (F1.cons (Le.refl _) (F1.cons (Le.refl _) (F1.cons (Le.emp _ _) (F1.cons (Le.refl _) (F1.nil)))))))))))))))⟩
    ·rw [show cellsOf (B7 (P4 p id 6))=[eS (I),eI 6,eI (PR),eS (G),eS (C),eB p.closes,C9 (SC).skus,C9 (SC).cats,eI (L),eI 0,eI 0,eI 0,eI 0,A8 3 W1 [],A8 3 S3 (TU)] from by rw [hI,hPR,hG,hC,hL,hSC,hTU];rfl]
     (try subst hG0);(try subst hC0);(try subst hL0)
     conv=>whnf
     refine I5 (hT6 _) ?_
     refine stU (A0 ..) (A4 ..) ?_
     rw [C0];conv=>whnf
     refine J0 (A0 ..) (A4 ..) ?_
     refine Y9 (by rw [A9 hne];exact A0 ..) rfl ?_
     refine J0 (A0 ..) (A4 ..) ?_
     exact .inl ⟨_,rfl,(hst _).over hb4,F1.cons (Le.refl _) (F1.cons (Le.refl _) (F1.cons (Le.refl _) (F1.cons (Le.refl _) (F1.cons (Le.refl _) (F1.cons (Le.refl _) (F1.cons (Le.refl _) (F1.cons (Le.refl _) (F1.cons (Le.refl _) (F1.cons (Le.refl _) (F1.cons (Le.refl _) (F1.cons (Le.refl _) (F1.cons (Le.refl _) (F1.cons (Le.emp _ _) (F1.cons (Le.refl _) (F1.nil)))))))))))))))⟩
    ·rw [show cellsOf (B7 (P4 p id 7))=[eS (I),eI 7,eI (PR),eS (G),eS (C),eB false,C9 [],C9 [],eI (L),eI (1+B6 p.rate 10000),eI 0,eI 0,eI 0,A8 3 W1 [],A8 3 S3 []] from by rw [hI,hPR,hG,hC,hL];rfl]
     (try subst hG0);(try subst hC0);(try subst hL0)
     conv=>whnf
     refine I5 (P3 _ 10000 (by decide) (by decide) _) ?_
     rw [wr]
     refine stU (A0 ..) (A4 ..) ?_
     rw [C0];conv=>whnf
     refine stU (A0 ..) (A4 ..) ?_
     rw [C0];conv=>whnf
     refine stU (A0 ..) (A4 ..) ?_
     rw [C0];conv=>whnf
     refine J0 (A0 ..) (A4 ..) ?_
     refine Y9 (by rw [A9 hne];exact A0 ..) rfl ?_
     refine J0 (A0 ..) (A4 ..) ?_
     exact .inl ⟨_,rfl,(hst _).over hb4,F1.cons (Le.refl _) (F1.cons (Le.refl _) (F1.cons (Le.refl _) (F1.cons (Le.refl _) (F1.cons (Le.refl _) (F1.cons (Le.refl _) (F1.cons (Le.emp _ _) (F1.cons (Le.emp _ _) (F1.cons (Le.refl _) (F1.cons (Le.refl _) (F1.cons (Le.refl _) (F1.cons (Le.refl _) (F1.cons (Le.refl _) (F1.cons (Le.emp _ _) (F1.cons (Le.emp _ _) (F1.nil)))))))))))))))⟩
theorem C5M (i:Nat) (h:i<6):Int.tmod (IntKind.i64.wrap (IntKind.i64.wrap ((i:Int) * 7)+3)) 10=C0I i:=by
 rw [A5 (x:=(i:Int) * 7) (by omega) (by omega),A5 (by omega) (by omega),D7q (by omega)];rfl
theorem B4G (l:List B1) (st:St):S P 101 [A8 15 B7 l] st fun v st'=>v=A8 15 B7 (N4 l)∧st'=st:=by
 refine A0L (ty:=206) ?_
 have hat:∀ i,i<6→X9 l i=A2c (l.getD (i:Int).toNat default) (Int.tmod (IntKind.i64.wrap (IntKind.i64.wrap ((i:Int) * 7)+3)) 10):=fun i hi=>by rw [C5M i hi];rfl
 have hPl:N4 l=(List.range (min l.length 6)).map (X9 l):=rfl
 rw [hPl]
 have hnext:=A5X (X9 l)
 have hS:=fun i=>B6k (l.getD (i:Nat) default)
 generalize X9 l=F at hat hnext ⊢
 refine F2 [] Tryz.func101 ?_
 refine lp (min l.length 6) [0,3,4] (fun i vs s=>∃ sv,vs=[A8 15 B7 l,sv,eI i]∧E0 206 15 B7 ((List.range i).map F) st sv s) ?_ ?_
 ·conv=>whnf
  exact ⟨.emp,rfl,E0.start _ _ _ _⟩
 ·rintro i vs s hi ⟨sv,rfl,hc⟩
  have hfin:i=min l.length 6→E0 206 15 B7 ((List.range (min l.length 6)).map F) st sv s:=fun e=>by rw [←e];exact hc
  have hlen:((List.range i).map F).length=i:=by rw [D5H,D6c]
  conv=>whnf
  refine B8 (fun h1=>?_) (fun h1=>?_)<;>rw [h1]<;>simp only [D5E,D5D] at h1
  ·conv=>whnf
   refine B8 (fun h2=>?_) (fun h2=>?_)<;>rw [h2]<;>simp only [D5E,D5D] at h2
   ·have hi':i<min l.length 6:=by omega
    have hF:=hat i (by omega)
    conv=>whnf
    refine E7 ?_
    refine B3 (hS (i:Int).toNat _ _) ?_
    generalize hid:Int.tmod (IntKind.i64.wrap (IntKind.i64.wrap ((i:Int) * 7)+3)) 10=ID at hF
    generalize A2c (l.getD (i:Int).toNat default) ID=Y at hF
    conv=>whnf
    refine E0.app (y:=Y) (q:=B8o) rfl rfl rfl rfl rfl (by rfl) (by rw [hlen];show (i+1) * 208≤140737488355328;omega) hc (fun sv' t' hc'=>?_);conv=>whnf
    refine F7 ?_
    refine nx hi' ⟨sv',by rw [B4 (by omega)],?_⟩
    rw [hnext,hF];exact hc'
   ·conv=>whnf
    exact hfin (by omega)
  ·conv=>whnf
   exact hfin (by omega)
abbrev A7u (l:List G4):Nat→AV:=fun i=>A0W (l.getD i default)
def A2B (zs:Nat→List G4) (sv:Nat→AV):Nat→St→St→Prop
 | 0=>E8
 | k+1=>fun s t=>ROut (A2B zs sv k) 209 2 (A7u (zs k)) (zs k).length s (sv k) t
theorem A2p (zs:Nat→List G4) (sv:Nat→AV):∀ k,L3 (A2B zs sv k)
 | 0=>J4
 | k+1=>U7 (A2p zs sv k) _ _ _ _ _
theorem A9F {zs zs':Nat→List G4} {sv sv':Nat→AV}:∀ (k:Nat) {s t:St},(∀ j,j<k→zs j=zs' j∧sv j=sv' j)→A2B zs sv k s t→A2B zs' sv' k s t
 | 0,s,t,_,h=>h
 | k+1,s,t,he,h=>by
  obtain ⟨s0,h1,h2⟩:=h
  obtain ⟨e1,e2⟩:=he k (D7Y k)
  rw [e1,e2] at h1
  exact ⟨s0,h1,A9F k (fun j hj=>he j (Nat.lt_succ_of_lt hj)) h2⟩
theorem A8f {bz n ty:Nat} {zs:Nat→List G4} {sv:Nat→AV} {nm:Nat→C8} {r1 r2:Nat→Int}:∀ (k:Nat) (s t:St) (g:Nat→AV),k≤n→A2B zs sv k s t→s bz=some ⟨ty,4,n,g⟩→(∀ j,j<k→g j=.agg [eS (nm j),sv j,eI (r1 j),eI (r2 j)]) →
  ∃ t' g',(∀ vs,A7 vs t vs t')∧E8 (upd s bz ⟨ty,4,n,g'⟩) t'∧(∀ j,j<k→g' j=.agg [eS (nm j),A8 2 A0W (zs j),eI (r1 j),eI (r2 j)])∧∀ j,k≤j→g' j=g j
 | 0,s,t,g,hk,h,hs,hg=>by
  refine ⟨t,g,fun vs=>A7.refl _ _,fun b x hb=>?_,fun j hj=>absurd hj (by omega),fun j _=>rfl⟩
  by_cases e:b=bz
  ·subst e;rw [A0] at hb;cases hb;exact h _ _ hs
  ·rw [A9 e] at hb;exact h _ _ hb
 | k+1,s,t,g,hk,h,hs,hg=>by
  have hB:=A2p zs sv k
  have ht:t bz=some ⟨ty,4,n,g⟩:=(A2p zs sv (k+1)).sup h _ _ hs
  obtain ⟨t1,hsh,hc⟩:=ROut.shift hB h
  have ht1:t1 bz=some ⟨ty,4,n,g⟩:=hB.sup hc _ _ hs
  have hcell:=fun vs=>A7.cell (vs:=vs) (pre:=[eS (nm k)]) (post:=[eI (r1 k),eI (r2 k)]) hsh ht ht1 (show k<n by omega) (hg k (by omega)) rfl
  have hc':=hB.write (y':=⟨ty,4,n,I3 g k (.agg ([eS (nm k)]++AV.arr 2 (zs k).length (A7u (zs k))::[eI (r1 k),eI (r2 k)]))⟩) hc hs
  obtain ⟨t',g',k1,k2,k3,k4⟩:=A8f (nm:=nm) (r1:=r1) (r2:=r2) k _ _ _ (by omega) hc' (A0 ..) (fun j hj=>by rw [H1 (by omega)];exact hg j (by omega))
  rw [C0] at k2
  refine ⟨t',g',fun vs=>(hcell vs).trans (k1 vs),k2,fun j hj=>?_,fun j hj=>?_⟩
  ·by_cases e:j=k
   ·subst e;rw [k4 j (D5L _),A4];rfl
   ·exact k3 j (by omega)
  ·rw [k4 j (by omega),H1 (by omega)]
theorem C4V (k:Nat) (h:k<3):(⟨#[122]⟩:C8)++B2d ([]++[IntKind.u8.wrap (48+IntKind.u8.wrap (k:Int))])=Q2 k:=by rw [B2n];rfl
theorem B6m {l:List K5} {k:Nat} (h:k<l.length):D5 l k=⟨Q2 k,T8 (l.getD k default).rates,B6 (l.getD k default).rest 3000,B6 (l.getD k default).ship 3000⟩:=if_pos h
theorem B4H {l:List K5} {k:Nat} (h:¬ k<l.length):D5 l k=⟨Q2 k,[],1000 * k,500 * k⟩:=if_neg h
theorem C6s {l:List G4} {c:Nat} (hc:c<min 3 l.length):(T8 l).getD c default=A8u l c:=by
 unfold T8
 rw [D5C,D6B,D7h hc];rfl
abbrev B2u (z:K5) (rv:AV):AV:=.agg [eS z.name,rv,eI z.rest,eI z.ship]
def ZO (t:Tax) (k:Nat) (base:St) (zv:AV) (s:St):Prop :=
 ∃ (sv g:Nat→AV),ROut (A2B (fun j=>(D5 t.zones j).rates) sv k) 103 4 g k base zv s∧∀ j,j<k→g j=B2u (D5 t.zones j) (sv j)
theorem ZO.end {t:Tax} {base s:St} {zv:AV} (h:ZO t 3 base zv s):∃ t',A7 [zv] s [A8 4 T4 (L2 t).zones] t'∧E8 base t':=by
 obtain ⟨sv,g,⟨s1,hcol,hch⟩,hg⟩:=h
 rcases hcol with ⟨h0,_,_⟩ | ⟨h0,bz,g0,hbz,rfl,rfl,hgg⟩
 ·cases h0
 obtain ⟨t',g',hsh,hsup,hg',_⟩:=A8f (nm:=fun j=>(D5 t.zones j).name) (r1:=fun j=>(D5 t.zones j).rest) (r2:=fun j=>(D5 t.zones j).ship) 3 _ s g0 (D5L _) hch (A0 ..) (fun j hj=>by rw [hgg j hj,hg j hj])
 rw [C0] at hsup
 refine ⟨del t' bz,(hsh _).trans (N7 (hsup bz _ (A0 ..)) rfl (D5L _) fun i hi=>?_),?_⟩
 ·show g' i=T4 ((L2 t).zones.getD i default)
  rw [hg' i hi]
  have:(L2 t).zones.getD i default=D5 t.zones i:=by
   show ((List.range 3).map (D5 t.zones)).getD i default=_
   rw [D5C,D6B,D7h hi];rfl
  rw [this];rfl
 ·exact E8.del (((E8.refl base).upd hbz).trans hsup) hbz
theorem ZO.next {t:Tax} {k:Nat} {base s1 s:St} {zv rv:AV} {sv g:Nat→AV} (hcol:Col 103 4 g base k zv s1) (hR:ROut (A2B (fun j=>(D5 t.zones j).rates) sv k) 209 2 (A7u (D5 t.zones k).rates) (D5 t.zones k).rates.length s1 rv s) (hg:∀ j,j<k→g j=B2u (D5 t.zones j) (sv j)) :
  ∃ sv' g',ROut (A2B (fun j=>(D5 t.zones j).rates) sv' (k+1)) 103 4 g' k base zv s∧sv' k=rv∧(∀ j,j<k+1→g' j=B2u (D5 t.zones j) (sv' j)):=by
 have hsv:∀ j,j<k→sv j=(fun j=>if j=k then rv else sv j) j:=fun j hj=>by simp only;rw [if_neg (by omega)]
 refine ⟨fun j=>if j=k then rv else sv j,fun j=>B2u (D5 t.zones j) (if j=k then rv else sv j),⟨s1,Col.congr hcol fun j hj=>by rw [hg j hj];show B2u _ _=B2u _ (if j=k then rv else sv j);rw [if_neg (by omega)],?_⟩,by simp,fun j _=>rfl⟩
 obtain ⟨s2,h1,h2⟩:=hR
 refine ⟨s2,?_,A9F k (fun j hj=>⟨rfl,hsv j hj⟩) h2⟩
 simp only [if_true];exact h1
theorem B6S {R:St→St→Prop} {ty e n b:Nat} {fo:Nat→AV} {base s:St} {zv:AV} {y:K7} (h:ROut R ty e fo n (upd base b y) zv (upd s b y)) (ty' e':Nat) (fo':Nat→AV):∃ s1,Col ty e fo (upd base b y) n zv s1∧ROut R ty' e' fo' 0 s1 .emp (upd s b y):=by
 obtain ⟨s1,h1,h2⟩:=h
 exact ⟨s1,h1,ROut.start h2 _ _ _⟩
theorem C6H {R:St→St→Prop} (hR:L3 R) {ty e n b ty' e' m:Nat} {fo fo':Nat→AV} {base s1 t:St} {zv rv:AV} {y:K7} (h1:Col ty e fo (upd base b y) n zv s1) (h2:ROut R ty' e' fo' m s1 rv t) (y':K7) :
  ∃ s1',Col ty e fo (upd base b y') n zv s1'∧ROut R ty' e' fo' m s1' rv (upd t b y'):=by
 have h3:=Col.write (y':=y') h1 (A0 ..)
 rw [C0] at h3
 exact ⟨_,h3,ROut.write hR h2 (h1.sup b _ (A0 ..))⟩
set_option maxHeartbeats 8000000 in
theorem C1h (x:Tax) (st:St):S P 102 [S8 x] st fun v st'=>v=S8 (L2 x)∧st'=st:=by
 have hE:S8 (L2 x)=.agg [eB x.incl,eB x.byOrder,eI (B6 x.round 3),A8 4 T4 (L2 x).zones]:=rfl
 refine S.post (post:=fun v s=>∃ zv base,v=.agg [eB x.incl,eB x.byOrder,eI (B6 x.round 3),zv]∧A7 [zv] s [A8 4 T4 (L2 x).zones] base∧E8 st base) ?_ (fun v s ⟨zv,base,h1,h2,h3⟩=>⟨_,st,⟨hE.symm,rfl⟩,by
  rw [h1]
  exact (A7.agg (A7.cons (A7.keep [eB x.incl] _) (A7.cons (A7.keep [eB x.byOrder] _) (A7.cons (A7.keep [eI (B6 x.round 3)] _) h2)))).trans (h3.shift _)⟩)
 clear hE
 have hRd:=fun s=>A0f x.round 3 (by decide) (by decide) s
 obtain ⟨RD',hRD'⟩:∃ RD',RD'=B6 x.round 3:=⟨_,rfl⟩
 rw [←hRD'] at hRd ⊢
 have hend:=fun base s zv=>ZO.end (t:=x) (base:=base) (s:=s) (zv:=zv)
 have hnext:=fun k base s1 s zv rv sv g=>ZO.next (t:=x) (k:=k) (base:=base) (s1:=s1) (s:=s) (zv:=zv) (rv:=rv) (sv:=sv) (g:=g)
 generalize A8 4 T4 (L2 x).zones=ZS at hend ⊢
 refine F2 [1] Tryz.func102 ?_
 intro b2 hb2;conv=>whnf
 refine ⟨[8,9],[1,3,5,6],List.range 10,by kernel_rfl,?_⟩;conv=>whnf
 refine ⟨_,fun s _=>⟨rfl,rfl⟩,?_⟩;conv=>whnf
 refine ⟨_,fun s _=>⟨rfl,rfl⟩,?_⟩;conv=>whnf
 refine ⟨_,fun s _=>⟨rfl,rfl⟩,?_⟩;conv=>whnf
 refine ⟨_,fun s _=>H0 (hRd s),?_⟩;conv=>whnf
 intro b3 hb3
 have h23:b2≠b3:=fun e=>by subst e;rw [A0] at hb3;cases hb3
 conv=>whnf
 refine stU (A0 ..) rfl ?_
 rw [C0];conv=>whnf
 refine lp 3 [1,2,3,4] (fun k vs s=>∃ zv f,vs=[.fptr (S8 x) 0,.optr 4 b2 0 0,.optr 4 b3 0 0,eI k]∧f 0=.agg [eB x.incl,eB x.byOrder,eI RD',zv]∧ZO x k (upd (upd st b2 ⟨26,4,1,fun _=>H2 r26.zero⟩) b3 ⟨26,4,1,f⟩) zv s) ?_ ?_
 ·conv=>whnf
  exact ⟨.emp,_,rfl,by first | rfl | (rw [A4];rfl),fun _=>.junk,fun _=>.junk,ROut.start (show A2B _ _ 0 _ _ from E8.refl _) _ _ _,fun j hj=>absurd hj (by omega)⟩
 rintro k vs s hk ⟨zv,f,rfl,hf,sv,g,hR,hg⟩
 have hB:=A2p (fun j=>(D5 x.zones j).rates) sv k
 have hsup:=ROut.sup hB hR
 have at3:s b3=some ⟨26,4,1,f⟩:=hsup b3 _ (A0 ..)
 have at2:s b2=some ⟨26,4,1,fun _=>H2 r26.zero⟩:=hsup b2 _ (by rw [A9 h23];exact A0 ..)
 conv=>whnf
 refine B8 (fun h1=>?_) (fun h1=>?_)<;>rw [h1]<;>simp only [D5E,D5D] at h1
 case refine_2 =>
  obtain rfl:k=3:=by omega
  have hz:=ROut.head hR
  obtain ⟨y2,hy2⟩:∃ y2:K7,y2=⟨26,4,1,I3 (fun _=>H2 r26.zero) 0 (.agg [eB x.incl,eB x.byOrder,eI RD',zv])⟩:=⟨_,rfl⟩
  obtain ⟨base,k1,k2⟩:=hend _ _ _ ⟨sv,g,ROut.write hB hR (b:=b2) (y':=y2) (by rw [A9 h23];exact A0 ..),hg⟩
  subst hy2
  rcases hz with rfl | ⟨bz,rfl⟩
  all_goals
   conv=>whnf
   refine J0 at3 hf ?_
   refine Y9 at2 rfl ?_
   refine J0 (A0 ..) (A4 ..) ?_
   exact ⟨_,base,rfl,k1,((((E8.refl st).upd hb2).upd hb3).over hb2).trans k2⟩
 have hk3:k<3:=by omega
 have hzn:=C4V k hk3
 have w1:IntKind.i64.wrap (1000 * (k:Int))=1000 * k:=A5 (by omega) (by omega)
 have w2:IntKind.i64.wrap (500 * (k:Int))=500 * k:=A5 (by omega) (by omega)
 have hname:∀ j,(D5 x.zones j).name=Q2 j:=fun j=>by unfold D5;split<;>rfl
 conv=>whnf
 intro b5 hb5
 have h35:b3≠b5:=fun e=>by subst e;rw [at3] at hb5;cases hb5
 have h25:b2≠b5:=fun e=>by subst e;rw [at2] at hb5;cases hb5
 have hbase5:(upd (upd st b2 ⟨26,4,1,fun _=>H2 r26.zero⟩) b3 ⟨26,4,1,f⟩) b5=none:=hsup.none hb5
 conv=>whnf
 rw [hzn,w1,w2]
 refine stU (A0 ..) rfl ?_
 rw [C0]
 /- the tail: the zone as it then stands is appended -/
 have tail:∀ (s2 s1:St) (rv:AV) (f5:Nat→AV),Col 103 4 g (upd (upd (upd st b2 ⟨26,4,1,fun _=>H2 r26.zero⟩) b3 ⟨26,4,1,f⟩) b5 ⟨103,4,1,f5⟩) k zv s1 →
   ROut (A2B (fun j=>(D5 x.zones j).rates) sv k) 209 2 (A7u (D5 x.zones k).rates) (D5 x.zones k).rates.length s1 rv s2 →
   ∀ (X:AV) (gg:Nat→AV),A0g 4 s2 X=some (1,gg)→gg 0=B2u (D5 x.zones k) rv →
   ∀ (K:KK),(∀ zv' t2,t2 b3=some ⟨26,4,1,f⟩→(zv'=.emp∨∃ b,zv'=.own 4 b 0 (k+1))→(∀ f',ZO x (k+1) (upd (upd st b2 ⟨26,4,1,fun _=>H2 r26.zero⟩) b3 ⟨26,4,1,f'⟩) zv' (upd t2 b3 ⟨26,4,1,f'⟩))→K zv' t2) →
   A5A T 24 zv X s2 K:=by
  intro s2 s1 rv f5 hcol hrt X gg hs hgg K hK
  obtain ⟨sv',g',q1,q2,q3⟩:=hnext _ _ _ _ _ _ _ _ hcol hrt hg
  have hB':=A2p (fun j=>(D5 x.zones j).rates) sv' (k+1)
  refine ROut.app (q:=C1l) (f:=g') hB' rfl rfl rfl rfl hs (by rw [q3 k (D7Y k),q2,hgg]) (by show (k+1) * 56≤140737488355328;omega) q1 (fun zv' t2 hR2=>?_)
  have hsup2:=ROut.sup hB' hR2
  have hd:∀ f',ROut (A2B (fun j=>(D5 x.zones j).rates) sv' (k+1)) 103 4 g' (k+1) (upd (upd st b2 ⟨26,4,1,fun _=>H2 r26.zero⟩) b3 ⟨26,4,1,f'⟩) zv' (upd t2 b3 ⟨26,4,1,f'⟩):=fun f'=>by
   have h1:=ROut.write hB' hR2 (b:=b3) (y':=⟨26,4,1,f'⟩) (by rw [A9 h35];exact A0 ..)
   rw [R5 h35.symm,C0] at h1
   refine (U7 hB' _ _ _ _ _).drop h1 ?_
   rw [A9 h35.symm] at hbase5 ⊢;exact hbase5
  exact hK zv' t2 (hsup2 b3 _ (by rw [A9 h35];exact A0 ..)) (ROut.head hR2) fun f'=>⟨sv',g',hd f',q3⟩
 have hbeg:=fun y=>(U7 hB 103 4 g k zv).begin (y:=y) hR hb5
 conv=>whnf
 refine B8 (fun h2=>?_) (fun h2=>?_)<;>rw [h2]<;>simp only [D5E,D5D] at h2
 case refine_2 =>
  have hz:=B4H (l:=x.zones) (k:=k) (by omega)
  rw [hz] at tail
  rcases ROut.head hR with rfl | ⟨bz,rfl⟩
  all_goals
   conv=>whnf
   refine J0 (by rw [A9 h35];exact at3) hf ?_
   refine J0 (A0 ..) (A4 ..) ?_
   obtain ⟨s1,hcol,hrt⟩:=B6S (hbeg ⟨103,4,1,I3 (fun _=>H2 C1l.zero) 0 (.agg [eS (Q2 k),.emp,eI (1000 * k),eI (500 * k)])⟩) 209 2 (A7u [])
   refine tail _ s1 .emp _ hcol hrt _ _ rfl rfl _ (fun zv' t2 q1 q2 q3=>?_)
   rcases q2 with rfl | ⟨bq,rfl⟩
   all_goals
    conv=>whnf
    refine Y9 q1 hf ?_
    refine F7 ?_
    exact nx hk3 ⟨_,_,by rw [B4 (by omega)],(by rw [A4];rfl),q3 _⟩
 have hz:=B6m (l:=x.zones) (k:=k) (by omega)
 have hrl:=fun c=>C6s (l:=(x.zones.getD (k:Int).toNat default).rates) (c:=c)
 have hrn:(T8 (x.zones.getD (k:Int).toNat default).rates).length=min 3 (x.zones.getD (k:Int).toNat default).rates.length:=by unfold T8;rw [D5H,D6c]
 rw [hz] at tail
 have hM1:=fun s=>P3 (x.zones.getD (k:Int).toNat default).rest 3000 (by decide) (by decide) s
 have hM2:=fun s=>P3 (x.zones.getD (k:Int).toNat default).ship 3000 (by decide) (by decide) s
 have tail':_:=tail
 rw [show x.zones.getD k default=x.zones.getD (k:Int).toNat default from rfl] at tail'
 clear tail
 generalize T8 (x.zones.getD (k:Int).toNat default).rates=RL at tail' hrl hrn
 generalize B6 (x.zones.getD (k:Int).toNat default).rest 3000=M1 at tail' hM1
 generalize B6 (x.zones.getD (k:Int).toNat default).ship 3000=M2 at tail' hM2
 conv=>whnf
 refine ⟨[15,17],[],List.range 18,by kernel_rfl,?_⟩;conv=>whnf
 refine E7 ?_
 refine cqW (hM1 _) ?_
 refine E7 ?_
 refine cqW (hM2 _) ?_
 refine stU (A0 ..) (A4 ..) ?_
 rw [C0];conv=>whnf
 refine stU (A0 ..) (A4 ..) ?_
 rw [C0];conv=>whnf
 refine lp (min 3 (x.zones.getD (k:Int).toNat default).rates.length) [1,2,3,4,5,6] (fun c vs s'=>∃ rv f5,vs=[.fptr (S8 x) 0,.optr 4 b2 0 0,.optr 4 b3 0 0,eI k,.optr 4 b5 0 0,eI c]∧f5 0=.agg [eS (Q2 k),rv,eI M1,eI M2] ∧
   ∃ s1,Col 103 4 g (upd (upd (upd st b2 ⟨26,4,1,fun _=>H2 r26.zero⟩) b3 ⟨26,4,1,f⟩) b5 ⟨103,4,1,f5⟩) k zv s1∧ROut (A2B (fun j=>(D5 x.zones j).rates) sv k) 209 2 (A7u RL) c s1 rv s') ?_ ?_
 ·conv=>whnf
  exact ⟨.emp,_,rfl,by first | rfl | (rw [A4];rfl),B6S (hbeg _) _ _ _⟩
 rintro c vs s' hc ⟨rv,f5,rfl,hf5,s1,hcol,hrt⟩
 have hsup':=ROut.sup hB hrt
 have at5:s' b5=some ⟨103,4,1,f5⟩:=hsup' b5 _ (hcol.sup b5 _ (A0 ..))
 have at3':s' b3=some ⟨26,4,1,f⟩:=hsup' b3 _ (hcol.sup b3 _ (by rw [A9 h35];exact A0 ..))
 conv=>whnf
 refine B8 (fun h3=>?_) (fun h3=>?_)<;>rw [h3]<;>simp only [D5E,D5D] at h3
 case' refine_1 =>
  conv=>whnf
  refine E7 ?_
  refine B8 (fun h4=>?_) (fun h4=>?_)<;>rw [h4]<;>simp only [D5E,D5D] at h4
 case refine_1.refine_1 =>
  have hc':c<min 3 (x.zones.getD (k:Int).toNat default).rates.length:=by omega
  have hra:=hrl c hc'
  rcases ROut.head hrt with rfl | ⟨br,rfl⟩
  all_goals
   conv=>whnf
   refine ⟨[17,19],[14],List.range 20,by kernel_rfl,?_⟩;conv=>whnf
   refine J0 at5 hf5 ?_
   refine cqW (A4T _ _) ?_
   refine E7 ?_
   refine E7 ?_
   refine ⟨_,fun s _=>H0 (P3 _ 3000 (by decide) (by decide) s),?_⟩;conv=>whnf
   refine ⟨_,⟨rfl,rfl⟩,?_⟩;conv=>whnf
   refine ROut.app (q:=C6k) hB rfl rfl rfl rfl rfl (f:=A7u RL) (by show _=A0W _;rw [hra];rfl) (by show (c+1) * 24≤140737488355328;omega) hrt (fun rv' t2 hrt2=>?_)
   have at5':t2 b5=some ⟨103,4,1,f5⟩:=ROut.sup hB hrt2 b5 _ (hcol.sup b5 _ (A0 ..))
   rcases ROut.head hrt2 with rfl | ⟨br',rfl⟩
   all_goals
    conv=>whnf
    refine Y9 at5' hf5 ?_
    refine F7 ?_
    exact nx hc' ⟨_,_,by rw [B4 (by omega)],(by rw [A4];rfl),C6H hB hcol hrt2 _⟩
 all_goals
  have hce:RL.length=c:=by omega
  rw [←hce] at hrt
  rcases ROut.head hR with rfl | ⟨bz,rfl⟩
  all_goals
   rcases ROut.head hrt with rfl | ⟨br,rfl⟩
   all_goals
    conv=>whnf
    refine J0 at3' hf ?_
    refine J0 at5 hf5 ?_
    refine tail' _ s1 _ _ hcol hrt _ _ rfl rfl _ (fun zv' t2 q1 q2 q3=>?_)
    rcases q2 with rfl | ⟨bq,rfl⟩
    all_goals
     conv=>whnf
     refine Y9 q1 hf ?_
     refine F7 ?_
     exact nx hk3 ⟨_,_,by rw [B4 (by omega)],(by rw [A4];rfl),q3 _⟩
set_option maxHeartbeats 8000000 in
theorem B6l (r:G7) (st:St):S P 44 [H3 r] st fun v st'=>v=H3 (H5 r)∧st'=st:=by
 have hE:H3 (H5 r)=.agg [A8 4 E5 (F9 r.items),A8 15 B7 (N4 r.promos),eB (L2 r.tax).incl,eB (L2 r.tax).byOrder,eI (L2 r.tax).round,A8 4 T4 (L2 r.tax).zones,eI (B6 r.ship.fee 900),eI (B6 r.ship.free 3 * 4000),
  eI (20+B6 r.policy.window 60),eI (B6 r.policy.grace 40),eI (1+B6 r.policy.mode 3),eI (B6 r.policy.restock 3 * B6 r.policy.restock 2500),B0 (O3 r.policy.order),B0 (O3 r.policy.credit)]:=rfl
 rw [hE]
 clear hE
 have h1:=C7 r.ship.fee (n:=900) (by decide)
 have h2:=C7 r.ship.free (n:=3) (by decide)
 have h3:=C7 r.policy.window (n:=60) (by decide)
 have h5:=C7 r.policy.mode (n:=3) (by decide)
 have h6:=C7 r.policy.restock (n:=3) (by decide)
 have h7:=C7 r.policy.restock (n:=2500) (by decide)
 have h8:B6 r.policy.restock 3 * B6 r.policy.restock 2500≤2 * 2499:=D8b (by omega) (by omega) (by omega) (by omega)
 have h9:0≤B6 r.policy.restock 3 * B6 r.policy.restock 2500:=D7d h6.1 h7.1
 have w1:IntKind.i64.wrap (B6 r.ship.free 3 * 4000)=B6 r.ship.free 3 * 4000:=A5 (by omega) (by omega)
 have w2:IntKind.i64.wrap (20+B6 r.policy.window 60)=20+B6 r.policy.window 60:=A5 (by omega) (by omega)
 have w3:IntKind.i64.wrap (1+B6 r.policy.mode 3)=1+B6 r.policy.mode 3:=A5 (by omega) (by omega)
 have w4:IntKind.i64.wrap (B6 r.policy.restock 3 * B6 r.policy.restock 2500)=B6 r.policy.restock 3 * B6 r.policy.restock 2500:=A5 (by omega) (by omega)
 have m1:=fun s=>P3 r.ship.fee 900 (by decide) (by decide) s
 have m2:=fun s=>P3 r.ship.free 3 (by decide) (by decide) s
 have m3:=fun s=>A0f r.policy.window 60 (by decide) (by decide) s
 have m4:=fun s=>A0f r.policy.grace 40 (by decide) (by decide) s
 have m5:=fun s=>A0f r.policy.mode 3 (by decide) (by decide) s
 have m6:=fun s=>P3 r.policy.restock 3 (by decide) (by decide) s
 have m7:=fun s=>P3 r.policy.restock 2500 (by decide) (by decide) s
 have c1:=fun s=>B6i r.items s
 have c2:=fun s=>B4G r.promos s
 have c3:∀ s,S P 102 [S8 r.tax] s fun v st'=>v=.agg [eB (L2 r.tax).incl,eB (L2 r.tax).byOrder,eI (L2 r.tax).round,A8 4 T4 (L2 r.tax).zones]∧st'=s:=fun s=>C1h r.tax s
 have c4:=fun s=>A9L r.policy.order s
 have c5:=fun s=>A9L r.policy.credit s
 clear h1 h2 h3 h5 h6 h7 h8 h9
 generalize B6 r.ship.fee 900=M1 at *
 generalize B6 r.ship.free 3=M2 at *
 generalize B6 r.policy.window 60=M3 at *
 generalize B6 r.policy.grace 40=M4 at *
 generalize B6 r.policy.mode 3=M5 at *
 generalize B6 r.policy.restock 3=M6 at *
 generalize B6 r.policy.restock 2500=M7 at *
 generalize F9 r.items=V1 at *
 generalize N4 r.promos=V2 at *
 generalize L2 r.tax=V3 at *
 generalize O3 r.policy.order=V4 at *
 generalize O3 r.policy.credit=V5 at *
 refine A1S ?_
 refine F2 [1,3] Tryz.func44 ?_
 intro b2 hb;conv=>whnf
 refine ⟨[45],[],List.range 46,by kernel_rfl,?_⟩;conv=>whnf
 refine cqW (c1 _) ?_
 refine cqW (c2 _) ?_
 refine cqW (c3 _) ?_
 refine cqW (m1 _) ?_
 refine cqW (m2 _) ?_
 rw [w1]
 refine cqW (m3 _) ?_
 rw [w2]
 refine cqW (m4 _) ?_
 refine cqW (m5 _) ?_
 rw [w3]
 refine cqW (m6 _) ?_
 refine cqW (m7 _) ?_
 rw [w4]
 refine cqW (c4 _) ?_
 refine cqW (c5 _) ?_
 refine Y9 (A0 ..) rfl ?_
 refine J0 (A0 ..) (A4 ..) ?_
 exact ⟨rfl,((E8.refl st).upd hb).over hb⟩
end Go.Proofs.YtaapofnkmpiknaaGreat
namespace Go.Proofs.YtaapofnkmpiknaaGreat
open Go Go.Ab
def C2Z (rates:List Int) (i:Nat):QE:=(-(gI rates i),(i:Int))
def B9o (rates:List Int):List QE:=(List.range rates.length).map (C2Z rates)
def A9Q (rates:List Int):List QE:=(B9o rates).mergeSort fun a b=>!G3 b a
theorem A8G (rates:List Int):(A9Q rates).Pairwise fun a b=>G3 b a=false:=by
 have:=D7V (le:=fun a b:QE=>!G3 b a) (fun a b c h1 h2=>by simp only [D5W] at *;exact A0E h2 h1) (fun a b=>by
  cases h:G3 b a with
  | false=>rfl
  | true=>rw [A0o h];rfl) (B9o rates)
 exact this.imp (fun h=>by simpa using h)
theorem A5j (rates:List Int):(A9Q rates).Perm (B9o rates):=D8s ..
def K8 (rates:List Int) (k:Int):List Nat:=(List.range rates.length).filter fun i=>-(gI rates i)==k
theorem C1I (rates:List Int) (k:Int):(A9Q rates).filter (fun e=>e.1==k)=(K8 rates k).map fun i:Nat=>(k,(i:Int)):=by
 have h1:((A9Q rates).filter (fun e=>e.1==k)).Perm ((K8 rates k).map fun i:Nat=>(k,(i:Int))):=by
  refine ((A5j rates).filter _).trans ?_
  unfold B9o K8
  rw [List.filter_map]
  refine List.Perm.of_eq ?_
  refine D6V fun i hi=>?_
  have:=(D6G.1 hi).2
  show (-(gI rates i),(i:Int))=(k,(i:Int))
  have h : -(gI rates i)=k:=by simpa [C2Z] using this
  rw [h]
 refine h1.eq_of_pairwise (le:=fun a b=>G3 b a=false) (fun a b _ _ h3 h4=>(A4u h4 h3)) (D8A D7F (A8G rates)) ?_
 refine List.pairwise_map.2 ?_
 unfold K8
 refine (D8A D7F List.pairwise_lt_range).imp fun {a b} hab=>?_
 rw [S5]
 show ¬(k>k∨k=k∧(b:Int)<(a:Int))
 omega
theorem C1J {E:List QE} (hs:E.Pairwise fun a b=>G3 b a=false) {k:Int} (hk:∀ e∈E,e.1≤k):E=E.filter (fun e=>e.1==k)++E.filter (fun e=>!(e.1==k)):=by
 induction E with
 | nil=>rfl
 | cons e E ih =>
  have hs':=D7o.1 hs
  by_cases h:e.1=k
  ·rw [D6J (by simpa using h),D6O (by simpa using h),D7X,←ih hs'.2 fun x hx=>hk x (D6d _ hx)]
  ·have hlt:∀ x∈E,x.1<k:=fun x hx=>by
    have h1:=(S5 _ _).1 (hs'.1 x hx)
    have h2:=hk e (D6f ..)
    omega
   have hn:E.filter (fun e=>e.1==k)=[]:=List.filter_eq_nil_iff.2 fun x hx=>by have:=hlt x hx;simp;omega
   have ha:E.filter (fun e=>!(e.1==k))=E:=List.filter_eq_self.2 fun x hx=>by have:=hlt x hx;simp;omega
   rw [D6O (by simpa using h),D6J (by simpa using h),hn,ha];rfl
def A1C (rates:List Int) (D:Int→Bool):List QE:=(A9Q rates).filter fun e=>!D e.1
theorem A8k (rates:List Int) (D:Int→Bool):(A1C rates D).Pairwise fun a b=>G3 b a=false:=D8A D7F (A8G rates)
theorem B7P {rates:List Int} {D:Int→Bool} {x:QE} {E:List QE} (h:A1C rates D=x::E) :
  D x.1=false∧x::E=((K8 rates x.1).map fun i:Nat=>(x.1,(i:Int)))++A1C rates (fun y=>D y||y==x.1):=by
 have hs:=A8k rates D
 have hx:x∈A1C rates D:=by rw [h];exact D6f ..
 have hD:D x.1=false:=by
  have:=(D6G.1 hx).2
  simpa using this
 refine ⟨hD,?_⟩
 have hk:∀ e∈A1C rates D,e.1≤x.1:=fun e he=>by
  rw [h] at he hs
  rcases D7f.1 he with rfl | he
  ·exact D6i _
  ·have:=(S5 _ _).1 ((D7o.1 hs).1 e he);omega
 have h2:=C1J hs hk
 rw [←h,h2]
 congr 1
 ·rw [←C1I]
  unfold A1C
  rw [List.filter_filter]
  refine List.filter_congr fun e he=>?_
  by_cases e1:e.1=x.1
  ·rw [e1,hD];simp
  ·simp [e1]
 ·unfold A1C
  rw [List.filter_filter]
  refine List.filter_congr fun e he=>?_
  show (!(e.1==x.1)&&!D e.1)=!(D e.1||e.1==x.1)
  rw [Bool.not_or,Bool.and_comm]
theorem B4p {rates:List Int} {D:Int→Bool} {k:Int}:∀ y∈A1C rates (fun z=>D z||z==k),(y.1==k)=false:=fun y hy=>by
 have:=(D6G.1 hy).2
 simp only [D5W,D6Q] at this
 exact this.2
theorem B5O (rates:List Int):A1C rates (fun _=>false)=A9Q rates:=List.filter_eq_self.2 fun x _=>rfl
theorem A0A {rates:List Int} {k:Int} {i:Nat} (hi:i∈K8 rates k) : -(gI rates i)=k∧i<rates.length∧A8m rates i=K8 rates k:=by
 have h1:=D6G.1 hi
 have h2 : -(gI rates i)=k:=by simpa using h1.2
 refine ⟨h2,D5S.1 h1.1,?_⟩
 unfold A8m K8
 refine List.filter_congr fun j _=>?_
 rw [D8I,D6z,D6z];omega
theorem B3m (rates:List Int) (k:Int):(K8 rates k).Nodup:=D8A D7F List.nodup_range
theorem C5I {rates:List Int} {k:Int} {j:Nat} (hj:j<(K8 rates k).length):A0C rates ((K8 rates k)[j])=j:=by
 have hm:=A0A (D7c hj)
 have h1:=A8n hm.2.1
 rw [hm.2.2] at h1
 have h2:=D5U.1 h1
 obtain ⟨h3,h4⟩:=h2
 have:=(List.nodup_iff_pairwise_ne.1 (B3m rates k))
 rcases Nat.lt_trichotomy (A0C rates ((K8 rates k)[j])) j with e | e | e
 ·exact absurd h4 (D7m.1 this _ _ h3 hj e)
 ·exact e
 ·exact absurd h4.symm (D7m.1 this _ _ hj h3 e)
def A2H (t:Tax) (rates nets:List Int) (k:Int):List Int:=D2 (N8 t (A2 ((K8 rates k).map (gI nets))) (-k)) ((K8 rates k).map (gI nets))
theorem C3H {t:Tax} {rates nets:List Int} {k:Int} {j:Nat} (hj:j<(K8 rates k).length):gI (A2H t rates nets k) j=A1G t rates nets ((K8 rates k)[j]):=by
 have hm:=A0A (D7c hj)
 unfold A2H A1G I7
 rw [C5I hj,hm.2.2,show gI rates ((K8 rates k)[j]) = -k by omega]
end Go.Proofs.YtaapofnkmpiknaaGreat
namespace Go.Proofs.YtaapofnkmpiknaaGreat
open Go Go.Ab
attribute [local irreducible] upd del
theorem C3R (st0:St) (q:Nat) (f:Bool) (st:St) (h:QSt st0 q f [] st):S P 237 [.optr 1 q 0 0] st fun v st'=>v=.tuple [eI 0,eI 0,.bool false]∧st'=st:=by
 obtain ⟨h1,h2,sv,⟨fq,hqs,hq0⟩,h3⟩:=h
 refine F2 [] Tryz.func237 ?_
 rcases h3 with ⟨_,rfl⟩ | ⟨b,l,n,a1,a2,rfl,a4,a5,a6,a7,a8,a9⟩
 ·refine J0 hqs hq0 ?_
  exact ⟨rfl,rfl⟩
 ·have e:n=0:=by
   have:=a8.length_eq
   rw [D5M,D6W] at this;omega
  subst e
  refine J0 hqs hq0 ?_
  exact ⟨rfl,rfl⟩
theorem B4I (st0:St) (q:Nat) (f:Bool) (x:QE) (es:List QE) (st:St) (h:QSt st0 q f (x::es) st) (htop:∀ y∈es,G3 y x=false):S P 237 [.optr 1 q 0 0] st fun v st'=>v=.tuple [eI x.1,eI x.2,.bool true]∧st'=st:=by
 obtain ⟨h1,h2,sv,hq,h3⟩:=h
 rcases h3 with ⟨h,_⟩ | ⟨b,l,n,a1,a2,rfl,a4,a5,a6,a7,a8,a9⟩
 ·cases h
 have hn:n=es.length+1:=by
  have:=a8.length_eq
  rw [D5M,D6p] at this;omega
 subst hn
 have hx:at_ l 0=x:=by
  have m0:at_ l 0∈x::es:=by
   refine a8.subset ?_
   have:(l.take (es.length+1)).getD 0 default=at_ l 0:=by
    unfold at_;rw [D5C,D5C,D5Q (by omega)]
   rw [←this];exact A6 (by rw [D5M];omega)
  have hmem:x∈l.take (es.length+1):=a8.symm.subset (D6f ..)
  obtain ⟨k,hk,he⟩:=D3 hmem
  rw [D5M] at hk
  have hxk:x=at_ l k:=by
   rw [he];unfold at_;rw [D5C,D5C,D5Q (by omega)]
  have t1:G3 x (at_ l 0)=false:=by rw [hxk];exact a6.top k (by omega)
  rcases D7f.1 m0 with e | e
  ·exact e
  ·exact A4u (htop _ e) t1
 obtain ⟨fq,hqs,hq0⟩:=hq
 obtain ⟨fe,hes,hef⟩:=a7
 have h0:fe 0=A5P x:=by rw [hef 0 (by omega),hx]
 refine F2 [] Tryz.func237 ?_
 refine J0 hqs hq0 ?_
 rw [show (((es.length+1:Nat):Int)==0)=false by rw [D6o];omega];conv=>whnf
 refine ⟨[],[],List.range 17,by kernel_rfl,?_⟩;conv=>whnf
 refine J0 hqs hq0 ?_
 refine E7 ?_
 refine ldV hes rfl (by omega) (v:=A5P x) h0 ?_;conv=>whnf
 refine J0 hqs hq0 ?_
 refine E7 ?_
 refine ldV hes rfl (by omega) (v:=A5P x) h0 ?_;conv=>whnf
 exact ⟨rfl,rfl⟩
def IsL (L:List Int) (y:K7):Prop:=∃ f,y=⟨2,1,L.length,f⟩∧∀ i,i<L.length→f i=eI (gI L i)
def OQ (bo q:Nat) (L:List Int) (fl:Bool) (es:List QE):St→St→Prop:=Y3 bo (IsL L) (fun s t=>QSt s q fl es t)
theorem B0L (bo q:Nat) (L:List Int) (fl:Bool) (es:List QE):L3 (OQ bo q L fl es):=A0x (B9e q fl es)
abbrev gN (G:List Nat) (i:Nat):Int:=((G.getD i 0:Nat):Int)
def QJ (G:List Nat) (k:Int) (Rest:List QE) (j:Nat):List QE:=((G.drop j).map fun i:Nat=>(k,(i:Int)))++Rest
theorem C5i {G:List Nat} {k:Int} {Rest:List QE} {j:Nat} (hj:j<G.length):QJ G k Rest j=(k,gN G j)::QJ G k Rest (j+1):=by
 unfold QJ gN
 rw [D7G hj,D5C,D5K hj];rfl
theorem C2o {G:List Nat} {k:Int} {Rest:List QE}:QJ G k Rest G.length=Rest:=by
 unfold QJ;rw [List.drop_length];rfl
def C3K (es:List QE):AV:=match es with
 | []=>.tuple [eI 0,eI 0,.bool false]
 | y::_=>.tuple [eI y.1,eI y.2,.bool true]
theorem C3S (st0:St) (q:Nat) (f:Bool) (es:List QE) (st:St) (h:QSt st0 q f es st) (hs:es.Pairwise fun a b=>G3 b a=false):S P 237 [.optr 1 q 0 0] st fun v st'=>v=C3K es∧st'=st:=by
 cases es with
 | nil=>exact C3R st0 q f st h
 | cons y es=>exact B4I st0 q f y es st h (D7o.1 hs).1
def B3j (t:Tax) (rates nets:List Int) (D:Int→Bool) (L:List Int):Prop:=L.length=nets.length∧∀ i,i<nets.length→gI L i=if D (-(gI rates i))=true then A1G t rates nets i else 0
theorem C3e {a b:List Int} (hl:a.length=b.length) (h:∀ i,i<a.length→gI a i=gI b i):a=b:=D8l hl fun i h1 h2=>by
 have:=h i h1
 unfold gI at this
 rw [D5C,D5K h1,D5C,D5K h2] at this
 exact this
theorem C2X {t:Tax} {rates nets:List Int} {D:Int→Bool} {L:List Int} (h:B3j t rates nets D L) (hr:rates.length=nets.length) (hE:A1C rates D=[]):L=G6 t rates nets:=by
 have hl:(G6 t rates nets).length=nets.length:=by unfold G6;rw [D5H,D6c]
 refine C3e (by rw [h.1,hl]) fun i h1=>?_
 have hi:i<nets.length:=by rw [←h.1];exact h1
 have h3:=h.2 i hi
 have hD:D (-(gI rates i))=true:=by
  have hm:C2Z rates i∈A9Q rates:=(A5j rates).mem_iff.2 (D5X.2 ⟨i,D5S.2 (by omega),rfl⟩)
  have:=List.filter_eq_nil_iff.1 hE _ hm
  simpa [C2Z] using this
 rw [if_pos hD] at h3
 rw [h3]
 unfold G6 gI
 rw [D5C,D6B,D7h hi];rfl
def A4v (L:List Int) (G:List Nat) (X:List Int):Nat→List Int
 | 0=>L
 | j+1=>(A4v L G X j).set (G.getD j 0) (gI X j)
theorem A8x (L:List Int) (G:List Nat) (X:List Int) (j:Nat):(A4v L G X j).length=L.length:=by
 induction j with
 | zero=>rfl
 | succ j ih=>show ((A4v L G X j).set _ _).length=_;rw [D6Z,ih]
theorem B9I {L:List Int} {G:List Nat} {X:List Int} (hn:G.Nodup) (hG:∀ i∈G,i<L.length):∀ j,j≤G.length→∀ i,i<L.length→gI (A4v L G X j) i=if i∈G.take j then gI X (G.idxOf i) else gI L i
 | 0,_,i,hi=>by rw [D7p,if_neg D7j];rfl
 | j+1,hj,i,hi=>by
  have ih:=B9I (X:=X) hn hG j (by omega) i hi
  have hgj:G.getD j 0=G[j]:=by rw [D5C,D5K (by omega)];rfl
  show gI ((A4v L G X j).set (G.getD j 0) (gI X j)) i=_
  rw [hgj,D7H (show j<G.length by omega)]
  by_cases e:G[j]=i
  ·have hidx:G.idxOf i=j:=by rw [←e];exact hn.idxOf_getElem j (by omega)
   rw [if_pos (List.mem_append_right _ (D6h.2 e.symm)),hidx]
   unfold gI
   rw [e,D5C,List.getElem?_set_self (by rw [A8x];exact hi)];rfl
  ·have hs:gI ((A4v L G X j).set G[j] (gI X j)) i=gI (A4v L G X j) i:=by
    unfold gI;rw [D5C,D7x e,←D5C]
   rw [hs,ih]
   by_cases hm:i∈G.take j
   ·rw [if_pos hm,if_pos (List.mem_append_left _ hm)]
   ·rw [if_neg hm,if_neg]
    intro h
    rcases D6T.1 h with h | h
    ·exact hm h
    ·exact e (D6h.1 h).symm
theorem B3k {t:Tax} {rates nets:List Int} {D:Int→Bool} {L:List Int} {k:Int} (h:B3j t rates nets D L) (hr:rates.length=nets.length):B3j t rates nets (fun y=>D y||y==k) (A4v L (K8 rates k) (A2H t rates nets k) (K8 rates k).length):=by
 have hG:∀ i∈K8 rates k,i<L.length:=fun i hi=>by rw [h.1,←hr];exact (A0A hi).2.1
 refine ⟨by rw [A8x];exact h.1,fun i hi=>?_⟩
 rw [B9I (B3m rates k) hG _ (D5L _) i (by rw [h.1];exact hi),D5N]
 by_cases hm:i∈K8 rates k
 ·obtain ⟨h1,h2,h3⟩:=A0A hm
  have hlt:=List.idxOf_lt_length_iff.2 hm
  rw [if_pos hm,C3H hlt,List.getElem_idxOf hlt,if_pos (by rw [h1];simp)]
 ·have hne:¬ -(gI rates i)=k:=fun e=>hm (D6G.2 ⟨D5S.2 (by omega),by rw [e];exact D7R k⟩)
  rw [if_neg hm,h.2 i hi]
  have:(-(gI rates i)==k)=false:=D6o.2 hne
  simp only [this,D6u]
theorem IsL.set {L:List Int} {f:Nat→AV} {i:Nat} {v:Int} (h:∀ k,k<L.length→f k=eI (gI L k)):IsL (L.set i v) ⟨2,1,L.length,I3 f i (eI v)⟩:=by
 refine ⟨_,by rw [D6Z],fun k hk=>?_⟩
 rw [D6Z] at hk
 by_cases e:k=i
 ·subst e
  rw [A4];unfold gI
  rw [D5C,List.getElem?_set_self hk];rfl
 ·rw [H1 e,h k hk];unfold gI
  rw [D5C,D5C,D7x (fun e2=>e e2.symm)]
theorem C0O {rates:List Int} {D:Int→Bool} {x:QE} {E:List QE} (h:A1C rates D=x::E):∃ i,i<rates.length∧i∈K8 rates x.1∧gI rates i = -x.1:=by
 have hx:x∈A9Q rates:=(D6G.1 (show x∈A1C rates D by rw [h];exact D6f ..)).1
 obtain ⟨i,hi,rfl⟩:=D5X.1 ((A5j rates).mem_iff.1 hx)
 have hi:=D5S.1 hi
 exact ⟨i,hi,D6G.2 ⟨D5S.2 hi,D7R _⟩,by show gI rates i = - -(gI rates i);omega⟩
theorem C7e {rates:List Int} {k:Int} {j:Nat} (hj:j<(K8 rates k).length):(gN (K8 rates k) j).toNat<rates.length∧0≤gN (K8 rates k) j:=by
 have hm:(K8 rates k).getD j 0∈K8 rates k:=by rw [D5C,D5K hj];exact D7c hj
 have:=(A0A hm).2.1
 exact ⟨by show ((((K8 rates k).getD j 0:Nat):Int)).toNat<_;omega,by show 0≤(((K8 rates k).getD j 0:Nat):Int);omega⟩
end Go.Proofs.YtaapofnkmpiknaaGreat
