/- Part 29 of the proof: contracts of the functions that the law reaches -/
import Derived.Test.YtaapofnkmpiknaaGreatRw28
set_option maxRecDepth 100000
set_option linter.unusedVariables false
set_option linter.unusedSimpArgs false
namespace Go.Proofs.YtaapofnkmpiknaaGreat
open Go Go.Ab
attribute [local irreducible] upd del
structure Pay where
 kind:Int
 amount:Int
 deriving Inhabited
def A9S (x:Pay):AV:=.agg [eI x.kind,eI x.amount]
def A3K (x:Pay):Bool:=O6 1 9 x.kind&&decide (x.amount≥1)&&K4 x.amount
def X9 (l:List Pay):Int:=l.foldl (fun a x=>a+x.amount) 0
def A6X (l:List Pay) (total:Int):Bool:=decide ((l.length:Int)≤6)&&l.all A3K&&(X9 l==total)
theorem C3m {l:List Pay}:∀ i,i≤l.length→(∀ k,k<i→A3K (l.getD k default)=true)→0≤X9 (l.take i)∧X9 (l.take i)≤100000000000000 * (i:Int)
 | 0,_,_=>⟨by rw [D7d];exact D5W _,by rw [D7d];exact D5W _⟩
 | i+1,hi,h=>by
  have ih:=C3m i (by omega) fun k hk=>h k (by omega)
  have hx:=h i (by omega)
  unfold A3K K4 at hx
  simp only [D5r,E6,D5n] at hx
  have e:X9 (l.take (i+1))=X9 (l.take i)+(l.getD i default).amount:=I6 (by omega) _ _
  rw [e]
  omega
theorem C3j (l:List Pay) (total:Int) (hl:l.length≤100000) (st:St):S P 61 [A6 2 A9S l,eI total] st fun v st'=>v=.bool (A6X l total)∧st'=st:=by
 have hP:A6X l total=(decide ((l.length:Int)≤6)&&l.all A3K&&(X9 l==total)):=rfl
 refine F1 [7] Tryz.func61 ?_
 refine B8 (fun h=>?_) (fun h=>?_)<;>rw [h]<;>simp only [D5n,D5m] at h
 ·rw [D5t (by omega)] at hP
  rw [hP];conv=>whnf
  exact ⟨rfl,rfl⟩
 rw [D5U (by omega),D5C] at hP;conv=>whnf
 refine lp l.length [1,5,11,12,13] (fun i vs s=>(∀ k,k<i→A3K (l.getD k default)=true)∧vs=[eI total,eI (X9 (l.take i)),A6 2 A9S l,eI l.length,eI i]∧s=st) ?_ ?_
 ·conv=>whnf
  exact ⟨fun k hk=>absurd hk (by omega),rfl,rfl⟩
 rintro i vs s hi ⟨hok,rfl,rfl⟩
 conv=>whnf
 cases h1:decide ((i:Int)<(l.length:Int))
 ·obtain rfl:=C5 h1 hi
  rw [show l.all A3K=true from D5I.2 fun x hx=>by obtain ⟨k,hk,rfl⟩:=D3 hx;exact hok k hk,D5C] at hP
  rw [hP,D5w]
  generalize X9 l=Z
  conv=>whnf
  exact ⟨rfl,rfl⟩
 have hi':=D9 h1
 have n1:=fun s=>B7q (l.getD (i:Int).toNat default).kind s
 have n2:=fun s=>A4P (l.getD (i:Int).toNat default).amount s
 have hx:A3K (l.getD (i:Int).toNat default)=(O6 1 9 (l.getD (i:Int).toNat default).kind&&decide ((l.getD (i:Int).toNat default).amount≥1)&&K4 (l.getD (i:Int).toNat default).amount):=rfl
 have hb:=C3m i hi hok
 have hs:X9 (l.take (i+1))=X9 (l.take i)+(l.getD (i:Int).toNat default).amount:=I6 hi' _ _
 have hm:A3K (l.getD (i:Int).toNat default)=true→0≤(l.getD (i:Int).toNat default).amount∧(l.getD (i:Int).toNat default).amount≤100000000000000:=fun hm=>by
  rw [hx] at hm
  unfold K4 at hm
  simp only [D5r,E6,D5n] at hm
  omega
 have hw:A3K (l.getD (i:Int).toNat default)=true→IntKind.i64.wrap (X9 (l.take i)+(l.getD (i:Int).toNat default).amount)=X9 (l.take (i+1)):=fun h2=>by
  have:=hm h2
  rw [hs];exact A5 (by omega) (by omega)
 have yes:A3K (l.getD (i:Int).toNat default)=true→∀ k,k<i+1→A3K (l.getD k default)=true:=fun hm=>H4 hok hm
 have no:A3K (l.getD (i:Int).toNat default)=false→A6X l total=false:=fun hm=>by
  rw [hP,show l.all A3K=false by
   have hm:A3K (l.getD i default)=false:=hm
   rw [D6Z];intro e
   rw [D5I.1 e _ (A7 hi')] at hm;cases hm]
  rfl
 generalize A3K (l.getD (i:Int).toNat default)=t at hx hw yes no
 generalize hY:X9 (l.take (i+1))=Y at hw
 generalize X9 (l.take i)=Z at hw ⊢
 clear hok hb hs hm hP
 conv=>whnf
 refine ⟨rfl,⟨by omega,by omega⟩,?_⟩
 generalize O6 1 9 (l.getD (i:Int).toNat default).kind=b1 at *
 generalize K4 (l.getD (i:Int).toNat default).amount=b2 at *
 cases t with
 | true =>
  have hx:=hx.symm
  simp only [D5r,D5n] at hx
  obtain ⟨⟨rfl,e3⟩,rfl⟩:=hx
  have g1:decide ((l.getD (i:Int).toNat default).amount<1)=false:=D5t (by omega)
  repeat' ((conv=>whnf);first | refine B4 (n1 _) ?_ | refine B4 (n2 _) ?_ | rw [g1])
  refine F8 ?_
  exact nx hi' ⟨yes rfl,by rw [hY,←hw rfl,B3 (by omega)],rfl⟩
 | false =>
  repeat' ((conv=>whnf);first | refine B4 (n1 _) ?_ | refine B4 (n2 _) ?_ | (refine B8 (fun h=>?_) (fun h=>?_)<;>rw [h]))
  all_goals first
   | (exfalso
      simp only [D5F,D5T,D5n,D5m] at *
      have e:(b1&&decide ((l.getD (i:Int).toNat default).amount≥1)&&b2)=true:=by
       simp only [D5r,D5n]
       exact ⟨⟨by assumption,by omega⟩,by assumption⟩
      rw [←hx] at e;cases e;done)
   | (conv=>whnf
      rw [no rfl]
      exact ⟨rfl,rfl⟩)
def A0G (l:List E8) (q:A1I) (i:Nat):A2Z:=⟨(l.getD i default).sku,(l.getD i default).price,(l.getD i default).qty,(l.getD i default).qty,gI q.goods i,gI q.taxes i⟩
def O3 (l:List E8) (q:A1I):List A2Z:=(List.range l.length).map (A0G l q)
theorem C2O (l:List E8) (q:A1I) (hl:l.length≤1000) (h1:q.goods.length=l.length) (h2:q.taxes.length=l.length) (st:St):S P 63 [A6 3 I0 l,A0E q] st fun v st'=>v=A6 6 Z3 (O3 l q)∧st'=st:=by
 refine A0A (ty:=55) ?_
 refine F1 [3,7] Tryz.func63 ?_
 refine lp l.length [3,5,8,9,10] (fun i vs s=>∃ sv,vs=[.fptr (A0E q) 0,sv,A6 3 I0 l,eI l.length,eI i]∧E0 55 6 Z3 ((List.range i).map (A0G l q)) st sv s) ?_ ?_
 ·conv=>whnf
  exact ⟨.emp,rfl,E0.start _ _ _ _⟩
 rintro i vs s hi ⟨sv,rfl,hc⟩
 conv=>whnf
 cases h:decide ((i:Int)<(l.length:Int))
 ·obtain rfl:=C5 h hi
  conv=>whnf
  exact hc
 have hi':=D9 h
 have hln:((List.range i).map (A0G l q)).length=i:=by rw [D5p,D5O]
 have htk:(List.range (i+1)).map (A0G l q)=(List.range i).map (A0G l q)++[A0G l q i]:=by rw [D6L,D5P];rfl
 conv=>whnf
 refine E4 ?_
 refine ⟨[20,21],[],List.range 23,by kernel_rfl,?_⟩;conv=>whnf
 refine ⟨rfl,⟨by omega,by rw [h1];omega⟩,?_⟩;conv=>whnf
 refine ⟨rfl,⟨by omega,by rw [h2];omega⟩,?_⟩;conv=>whnf
 refine E0.app (q:=r55) (y:=A0G l q i) rfl rfl rfl rfl rfl rfl (by rw [hln];show (i+1) * 56≤140737488355328;omega) hc (fun sv' s' hc'=>?_);conv=>whnf
 refine F8 ?_
 exact nx hi' ⟨sv',by rw [B3 (by omega)],by rw [htk];exact hc'⟩
def aqP:List Pay:=[⟨1,110⟩]
def aqK:List A2Z:=[⟨⟨#[97]⟩,50,2,2,100,10⟩]
def aqO:U0:=⟨⟨#[111]⟩,1,⟨#[122]⟩,false,[],3,aqK,0,0,0,110,⟨100,10,0,0,0⟩,[⟨1,110,0⟩]⟩
def aqC:AV:=.agg [eI 0,eS ⟨#[]⟩,.emp,.emp,eB false,eB false,eI 0,.emp,eI 0,eI 0,eI 0,eI 0,eI 0,eI 0,.emp,.emp,eI 0,eS ⟨#[111]⟩,eS ⟨#[122]⟩,eB false,.emp,A6 2 A4I aqA,A6 2 A9S aqP,.emp,eI 0,eI 0,eI 0]
theorem B9M (st:St):S P 58 [G9 aqR,eI 1,aqC,eI 3] st fun v st'=>v=eI 0∧st'=st:=by
 have n1:=B8P 3 st
 rw [show O6 0 100000 3=true by kernel_rfl] at n1
 have n2:=A1w ⟨#[111]⟩ st
 rw [show D2 ⟨#[111]⟩=true by kernel_rfl] at n2
 have n3:=A1w ⟨#[122]⟩ st
 rw [show D2 ⟨#[122]⟩=true by kernel_rfl] at n3
 have n4:=B4t aqR C2f st
 rw [show U6 aqR=true by kernel_rfl] at n4
 have n5:S P 120 [.emp] st fun v st'=>v=.bool true∧st'=st:=(by
  have h:=B0b [] (by decide) st
  rw [show S4 []=true by kernel_rfl] at h
  exact h.pre (H9 1 _))
 refine SyW [4,6] Tryz.func58 ?_
 repeat' ((conv=>whnf);first | refine B4 n1 ?_ | refine B4 n2 ?_ | refine B4 n3 ?_ | refine B4 n4 ?_ | refine B4 n5 ?_)
 exact ⟨rfl,rfl⟩
set_option maxHeartbeats 2000000 in
theorem C2d (st:St):S P 17 [G9 aqR,eI 1,aqC,eI 3] st fun v st'=>v=.tuple [U4 aqO,eI 0]∧st'=st:=by
 have n1:=fun s=>B9M s
 have n2:=fun s=>B5V aqI aqA (by decide) s
 rw [C2g] at n2
 have n3:∀ s,S P 60 [G9 aqR,eS ⟨#[122]⟩,eB false,.emp,A6 3 I0 aqL] s fun v s'=>v=.tuple [A0E aqQ,eI 0]∧s'=s:=fun s =>
  (B9O s).pre (A8.cons (A8.keep [G9 aqR] _) (A8.cons (A8.keep [eS ⟨#[122]⟩] _) (A8.cons (A8.keep [eB false] _) (A8.cons (H9 1 _) (A8.keep _ _)))))
 have n4:=fun s=>C3j aqP 110 (by decide) s
 rw [show A6X aqP 110=true by kernel_rfl] at n4
 have n5:∀ s,S P 62 [.emp] s fun v s'=>v=A6 1 eS []∧s'=s:=fun s=>(A9v [] (by decide) s).pre (H9 1 _)
 have n6:=fun s=>C2O aqL aqQ (by decide) rfl rfl s
 rw [show O3 aqL aqQ=aqK by kernel_rfl] at n6
 have n7:=fun s=>C2n aqQ ⟨by decide,fun x hx=>by rw [D5Q.1 hx];decide⟩ ⟨by decide,fun x hx=>by rw [D5Q.1 hx];decide⟩ s
 rw [show A2z aqQ=⟨100,10,0,0,0⟩ by kernel_rfl] at n7
 refine S.post (post:=fun v s'=>∃ b g,st b=none∧s' b=some ⟨70,3,1,g⟩∧g 0=A1W ⟨1,110,0⟩∧E5 st s' ∧
  v=.tuple [.agg [eS ⟨#[111]⟩,eI 1,eS ⟨#[122]⟩,eB false,A6 1 eS [],eI 3,A6 6 Z3 aqK,eI 0,eI 0,eI 0,eI 110,eI 100,eI 10,eI 0,eI 0,eI 0,.own 3 b 0 1],eI 0]) ?_ (fun v s' ⟨b,g,hb,hg,hg0,hs,hv⟩=>⟨_,st,⟨rfl,rfl⟩,by
   rw [hv]
   have h1:=N4 (st:=s') (f:=fun k=>A1W ((⟨1,110,0⟩::[]:List A2p).getD k default)) hg rfl (D5u _) (fun i hi=>by
    have hi:i<1:=hi
    have:i=0:=by omega
    subst this;exact hg0)
   have hA:A8 [.tuple [.agg [eS ⟨#[111]⟩,eI 1,eS ⟨#[122]⟩,eB false,A6 1 eS [],eI 3,A6 6 Z3 aqK,eI 0,eI 0,eI 0,eI 110,eI 100,eI 10,eI 0,eI 0,eI 0,.own 3 b 0 1],eI 0]] s' [.tuple [U4 aqO,eI 0]] (del s' b):=by
    refine A8.tuple (A8.cons (A8.agg ?_) (A8.keep _ _)) rfl
    iterate 16 refine A8.cons (A8.keep [_] _) ?_
    exact h1
   exact hA.trans ((hs.del hb).shift _)⟩)
 refine F1 [4,6,16] Tryz.func17 ?_
 intro b8 hb8;conv=>whnf
 refine H8 (n1 _) ?_
 refine H8 (n2 _) ?_
 refine H8 (n3 _) ?_
 intro b13 hb13
 have h813:b8≠b13:=fun e=>by subst e;rw [A0] at hb13;cases hb13
 conv=>whnf
 refine stU (A0 ..) rfl ?_
 rw [B6];conv=>whnf
 generalize hst:(upd (upd st b8 _) b13 _:St)=S0
 obtain ⟨f13,at13,hf13⟩:∃ f13:Nat→AV,S0 b13=some ⟨113,6,1,f13⟩∧f13 0=A0E aqQ:=by rw [←hst];exact ⟨_,A0 ..,by rw [A4];rfl⟩
 obtain ⟨f8,at8,hf8⟩:∃ f8:Nat→AV,S0 b8=some ⟨50,17,1,f8⟩∧f8 0=H1 r50.zero:=by rw [←hst,A9 h813];exact ⟨_,A0 ..,rfl⟩
 have hs0:E5 st S0:=by rw [←hst];exact ((E5.refl st).upd hb8).upd hb13
 clear hst hb13
 refine I1 at13 hf13 ?_
 refine H8 (n4 _) ?_
 refine ⟨[23,24],[1,4,6,8,9,12,13,15,17,19,20,21],List.range 25,by kernel_rfl,?_⟩
 repeat' ((conv=>whnf);first | refine ⟨_,fun s _=>⟨rfl,rfl⟩,?_⟩ | refine ⟨_,fun s _=>I5 (n5 s),?_⟩ | refine ⟨_,fun s _=>I5 (n6 s),?_⟩ | refine ⟨_,fun s _=>I5 (n7 s),?_⟩ | refine ⟨_,fun s hs=>ldV (hs _ _ at13) rfl (by omega) hf13 ⟨rfl,rfl⟩,?_⟩ | fail)
 intro b14 hb14
 have h814:b8≠b14:=fun e=>by subst e;rw [at8] at hb14;cases hb14
 conv=>whnf
 refine stU (A0 ..) rfl ?_
 rw [B6];conv=>whnf
 generalize hst:(upd S0 b14 _:St)=S1
 obtain ⟨f14,at14,hf14⟩:∃ f14:Nat→AV,S1 b14=some ⟨50,17,1,f14⟩∧f14 0=.agg [eS ⟨#[111]⟩,eI 1,eS ⟨#[122]⟩,eB false,A6 1 eS [],eI 3,A6 6 Z3 aqK,eI 0,eI 0,eI 0,eI 110,eI 100,eI 10,eI 0,eI 0,eI 0,.emp]:=by rw [←hst];exact ⟨_,A0 ..,by rw [A4];rfl⟩
 have at8:S1 b8=some ⟨50,17,1,f8⟩:=by rw [←hst,A9 h814];exact at8
 have hs1:E5 st S1:=by rw [←hst];exact hs0.upd hb14
 have hn14:st b14=none:=hs0.none hb14
 clear hst hb14 at13
 refine ⟨[8,14,85,86,87],fun m vs s=>∃ i:Nat,m=1 - i∧vs=[.optr 17 b8 0 0,.optr 17 b14 0 0,A6 2 A9S aqP,eI 1,eI i]∧((i=0∧s=S1)∨(i=1∧∃ b g f,S1 b=none∧s=upd (upd S1 b ⟨70,3,1,g⟩) b14 ⟨50,17,1,f⟩∧g 0=A1W ⟨1,110,0⟩∧f 0=.agg [eS ⟨#[111]⟩,eI 1,eS ⟨#[122]⟩,eB false,A6 1 eS [],eI 3,A6 6 Z3 aqK,eI 0,eI 0,eI 0,eI 110,eI 100,eI 10,eI 0,eI 0,eI 0,.own 3 b 0 1])),?_,?_⟩
 ·conv=>whnf
  exact ⟨1,0,rfl,rfl,.inl ⟨rfl,rfl⟩⟩
 rintro m vs s ⟨i,rfl,rfl,⟨rfl,rfl⟩ | ⟨rfl,bT,g,f,hbT,rfl,hg,hf⟩⟩
 ·conv=>whnf
  refine ⟨rfl,⟨by decide,by decide⟩,?_⟩;conv=>whnf
  refine I1 at14 hf14 ?_
  refine apE rfl rfl rfl rfl (A3O ..) (by show 1 * 24≤_;omega) (fun h=>absurd h (by omega)) (fun _ bT hbT=>?_)
  have hne:b14≠bT:=fun e=>by subst e;rw [at14] at hbT;cases hbT
  conv=>whnf
  refine X1 (by rw [A9 hne];exact at14) hf14 ?_
  refine F8 ?_
  exact ⟨0,by decide,1,rfl,rfl,.inr ⟨rfl,bT,_,_,hbT,rfl,rfl,by rw [A4];rfl⟩⟩
 ·have hne:b14≠bT:=fun e=>by subst e;rw [at14] at hbT;cases hbT
  have hne8:b8≠bT:=fun e=>by subst e;rw [at8] at hbT;cases hbT
  conv=>whnf
  refine I1 (A0 ..) hf ?_
  refine X1 (by rw [A9 h814,A9 hne8];exact at8) hf8 ?_
  refine I1 (A0 ..) (A4 ..) ?_
  exact ⟨bT,g,hs1.none hbT,by rw [A9 hne8.symm,A9 hne.symm];exact A0 ..,hg,((hs1.upd hbT).over hn14).over hb8,rfl⟩
def B1k (t:Int) (x:Pay):Pay:=⟨1+B9 x.kind 5,1+B9 x.amount t⟩
def A3A (s:Int×List Pay) (x:Pay):Int×List Pay :=
 if s.1>1 then (if (B1k s.1 x).amount<s.1 then (s.1 - (B1k s.1 x).amount,s.2++[B1k s.1 x]) else s) else s
def M0 (t:Int) (l:List Pay):Int×List Pay:=l.foldl A3A (t,[])
def P0 (t:Int) (l:List Pay):List Pay :=
 if (M0 t (l.take 2)).1>0 then (M0 t (l.take 2)).2++[⟨1+B9 l.length 5,(M0 t (l.take 2)).1⟩] else (M0 t (l.take 2)).2
theorem B1l (a:List Pay) (x:Pay):X9 (a++[x])=X9 a+x.amount:=by unfold X9;rw [D7n];rfl
theorem C3l {t:Int} (ht:1<t∧t≤100000000000000) (x:Pay):A3K (B1k t x)=true:=by
 have h1:=D0 x.kind (n:=5) (by decide)
 have h2:=D0 x.amount (n:=t) (by omega)
 unfold A3K K4 B1k
 simp only [D5r,E6,D5n]
 omega
structure B8E (t:Int) (n:Nat) (s:Int×List Pay):Prop where
 left:0≤s.1∧s.1≤t
 sum:X9 s.2+s.1=t
 ok:∀ x∈s.2,A3K x=true
 len:s.2.length≤n
theorem B8E.step {t:Int} {n:Nat} {s:Int×List Pay} (ht:t≤100000000000000) (h:B8E t n s) (x:Pay):B8E t (n+1) (A3A s x):=by
 obtain ⟨h1,h2,h3,h4⟩:=h
 unfold A3A
 split
 ·rename_i hs
  split
  ·rename_i ha
   have hk:=C3l (t:=s.1) ⟨hs,by omega⟩ x
   have hp:(B1k s.1 x).amount≥1:=by
    unfold A3K at hk
    simp only [D5r,D5n] at hk
    exact hk.1.2
   exact ⟨⟨by show 0≤s.1 - _;omega,by show s.1 - _≤t;omega⟩,by show X9 (s.2++[_])+(s.1 - _)=t;rw [B1l];omega,fun y hy=>by
    rcases D6B.1 hy with hy | hy
    ·exact h3 y hy
    ·rw [D5Q.1 hy];exact hk,by show (s.2++[_]).length≤n+1;rw [D5x];exact Nat.succ_le_succ h4⟩
  ·exact ⟨h1,h2,h3,by omega⟩
 ·exact ⟨h1,h2,h3,by omega⟩
theorem A7r {t:Int} (h0:0≤t) (ht:t≤100000000000000) (l:List Pay):∀ i,i≤l.length→B8E t i (M0 t (l.take i))
 | 0,_=>⟨⟨h0,D5W _⟩,by show 0+t=t;omega,fun x hx=>(by cases hx),D5u _⟩
 | i+1,hi=>by
  have:=(A7r h0 ht l i (by omega)).step ht (l.getD i default)
  rwa [show M0 t (l.take (i+1))=A3A (M0 t (l.take i)) (l.getD i default) from I6 (by omega) _ _]
theorem B2q {t:Int} (h0:0≤t) (ht:t≤100000000000000) (l:List Pay):A6X (P0 t l) t=true∧(P0 t l).length≤3:=by
 have hlen:(l.take 2).length≤2:=by rw [D5v];omega
 have h:=A7r h0 ht (l.take 2) (l.take 2).length (D5u _)
 rw [D5w] at h
 obtain ⟨h1,h2,h3,h4⟩:=h
 have hm:=D0 (l.length:Int) (n:=5) (by decide)
 unfold P0 A6X
 generalize M0 t (l.take 2)=s at *
 split
 ·rename_i hp
  refine ⟨?_,by rw [D5x];show s.2.length+1≤3;omega⟩
  rw [B1l]
  simp only [D5r,D5n,D5I,D6k]
  refine ⟨⟨by rw [D5x];show ((s.2.length+1:Nat):Int)≤6;omega,fun x hx=>?_⟩,h2⟩
  rcases D6B.1 hx with hx | hx
  ·exact h3 x hx
  ·rw [D5Q.1 hx]
   unfold A3K K4
   simp only [D5r,E6,D5n]
   omega
 ·rename_i hp
  simp only [D5r,D5n,D5I,D6k]
  exact ⟨⟨⟨by omega,h3⟩,by omega⟩,by omega⟩
theorem B5H {t:Int} {l:List Pay} {i:Nat} (h:(M0 t (l.take i)).1≤1):∀ j,i≤j→M0 t (l.take j)=M0 t (l.take i)
 | 0,hj=>by rw [show i=0 by omega]
 | j+1,hj=>by
  by_cases e:i=j+1
  ·rw [e]
  ·have ih:=B5H h j (by omega)
   by_cases hl:j<l.length
   ·rw [show M0 t (l.take (j+1))=A3A (M0 t (l.take j)) (l.getD j default) from I6 hl _ _,ih]
    unfold A3A
    rw [if_neg (by omega)]
   ·rw [D7p (by omega)] at ih ⊢
    exact ih
set_option maxHeartbeats 2000000 in
theorem B7J (t:Int) (l:List Pay) (h0:0≤t) (ht:t≤100000000000000) (hl:l.length≤100000) (st:St):S P 57 [eI t,A6 2 A9S l] st fun v st'=>v=A6 2 A9S (P0 t l)∧st'=st:=by
 refine A0A (ty:=73) ?_
 refine F1 [7] Tryz.func57 ?_
 refine lp (min l.length 2) [0,1,5,6] (fun i vs s=>∃ sv,vs=[eI (M0 t (l.take i)).1,A6 2 A9S l,sv,eI i]∧E0 73 2 A9S (M0 t (l.take i)).2 st sv s) ?_ ?_
 ·conv=>whnf
  exact ⟨.emp,rfl,E0.start _ _ _ _⟩
 rintro i vs s hi ⟨sv,rfl,hc⟩
 have hin:=A7r h0 ht l i (by omega)
 have hfin:(¬ i<l.length∨¬ i<2∨¬(M0 t (l.take i)).1>1)→M0 t (l.take 2)=M0 t (l.take i):=fun h=>by
  rcases h with h | h | h
  ·rw [show i=l.length by omega,D5w,D7p (by omega)]
  ·rw [show i=2 by omega]
  ·exact B5H (by omega) 2 (by omega)
 have hst:i<l.length→M0 t (l.take (i+1))=A3A (M0 t (l.take i)) (l.getD (i:Int).toNat default):=fun h=>I6 h _ _
 have hP:P0 t l=if (M0 t (l.take 2)).1>0 then (M0 t (l.take 2)).2++[⟨1+B9 l.length 5,(M0 t (l.take 2)).1⟩] else (M0 t (l.take 2)).2:=rfl
 generalize hS1:M0 t (l.take (i+1))=S1 at hst
 generalize M0 t (l.take 2)=S2 at hfin hP
 generalize M0 t (l.take i)=S0 at *
 obtain ⟨L,O⟩:=S0
 obtain ⟨⟨z0,z1⟩,-,-,z3⟩:=hin
 simp only at *
 conv=>whnf
 refine B8 (fun h1=>?_) (fun h1=>?_)<;>rw [h1]<;>simp only [D5n,D5m] at h1
 case' refine_1 =>
  conv=>whnf
  refine B8 (fun h2=>?_) (fun h2=>?_)<;>rw [h2]<;>simp only [D5n,D5m] at h2
 case' refine_1.refine_1 =>
  conv=>whnf
  refine B8 (fun h3=>?_) (fun h3=>?_)<;>rw [h3]<;>simp only [D5n,D5m] at h3
 case' refine_1.refine_1.refine_1 =>
  have hi':i<min l.length 2:=by omega
  have hS:=hst (by omega)
  have m1:=D0 (l.getD (i:Int).toNat default).kind (n:=5) (by decide)
  have m2:=D0 (l.getD (i:Int).toNat default).amount (n:=L) (by omega)
  have w1:IntKind.i64.wrap (1+B9 (l.getD (i:Int).toNat default).kind 5)=1+B9 (l.getD (i:Int).toNat default).kind 5:=A5 (by omega) (by omega)
  have w2:IntKind.i64.wrap (1+B9 (l.getD (i:Int).toNat default).amount L)=1+B9 (l.getD (i:Int).toNat default).amount L:=A5 (by omega) (by omega)
  have w3:IntKind.i64.wrap (L - (1+B9 (l.getD (i:Int).toNat default).amount L))=L - (1+B9 (l.getD (i:Int).toNat default).amount L):=A5 (by omega) (by omega)
  have n1:=fun s=>A0x (l.getD (i:Int).toNat default).kind 5 (by decide) (by decide) s
  have n2:=fun s=>O9 (l.getD (i:Int).toNat default).amount L (by omega) (by omega) s
  unfold A3A B1k at hS
  rw [if_pos h3] at hS
  generalize B9 (l.getD (i:Int).toNat default).kind 5=K at *
  generalize B9 (l.getD (i:Int).toNat default).amount L=M at *
  conv=>whnf
  refine ⟨[16,17],[4,5,11,13],List.range 18,by kernel_rfl,?_⟩;conv=>whnf
  refine E4 ?_
  refine ⟨_,fun s _=>⟨rfl,rfl⟩,?_⟩;conv=>whnf
  refine ⟨_,fun s _=>I5 (n1 s),?_⟩;conv=>whnf
  refine E4 ?_
  refine ⟨_,fun s _=>⟨rfl,rfl⟩,?_⟩;conv=>whnf
  refine ⟨_,fun s _=>I5 (n2 s),?_⟩;conv=>whnf
  rw [w1,w2]
  refine B8 (fun h4=>?_) (fun h4=>?_)<;>rw [h4]<;>simp only [D5n,D5m] at h4
  ·rw [if_pos h4] at hS;conv=>whnf
   refine E0.app (q:=r73) (y:=(⟨1+K,1+M⟩:Pay)) rfl rfl rfl rfl rfl rfl (by show (O.length+1) * 16≤140737488355328;omega) hc (fun sv' s' hc'=>?_);conv=>whnf
   rw [w3]
   refine F8 ?_
   exact nx hi' ⟨sv',by rw [B3 (by omega),hS1,hS],by rw [hS1,hS];exact hc'⟩
  ·rw [if_neg h4] at hS;conv=>whnf
   refine F8 ?_
   exact nx hi' ⟨sv,by rw [B3 (by omega),hS1,hS],by rw [hS1,hS];exact hc⟩
 all_goals
  have hend:=hfin (by first | exact .inl (by omega) | exact .inr (.inl (by omega)) | exact .inr (.inr (by omega)))
  subst hend
  have m5:=fun s=>A0x (l.length:Int) 5 (by decide) (by decide) s
  have m6:=D0 (l.length:Int) (n:=5) (by decide)
  have w5:IntKind.i64.wrap (1+B9 (l.length:Int) 5)=1+B9 (l.length:Int) 5:=A5 (by omega) (by omega)
  simp only at hP
  rw [hP]
  generalize B9 (l.length:Int) 5=K at *
  conv=>whnf
  refine B8 (fun h6=>?_) (fun h6=>?_)<;>rw [h6]<;>simp only [D5n,D5m] at h6
  ·rw [if_pos h6];conv=>whnf
   refine H8 (m5 _) ?_
   rw [w5]
   refine E0.app (q:=r73) (y:=(⟨1+K,L⟩:Pay)) rfl rfl rfl rfl rfl rfl (by show (O.length+1) * 16≤140737488355328;omega) hc (fun sv' s' hc'=>?_);conv=>whnf
   exact hc'
  ·rw [if_neg h6];conv=>whnf
   exact hc
theorem B7V (items:List Ab.Item) (adds:List Add) (hi:items.length≤9223372036854775807) (st:St) :
  S P 55 [A6 4 E3 items,A6 2 A4I adds] st fun v st'=>v=.tuple [A6 3 I0 (W1 items adds).1,eI (W1 items adds).2]∧st'=st:=by
 have hB:W1 items adds=if adds.length<1∨adds.length>1000 then ([],2) else if (adds.any A0D)=true then ([],2) else if (adds.any fun x=>decide (O8 items x.sku<0))=true then ([],7) else (adds.map (J4 items),0):=rfl
 refine S.post (post:=fun v s'=>(∃ e,W1 items adds=([],e)∧v=.tuple [.emp,eI e]∧E5 st s')∨(∃ sv,W1 items adds=(adds.map (J4 items),0)∧v=.tuple [sv,eI 0]∧E0 137 3 I0 (adds.map (J4 items)) st sv s')) ?_ (fun v s' hv=>⟨_,st,⟨rfl,rfl⟩,by
  rcases hv with ⟨e,h1,rfl,h2⟩ | ⟨sv,h1,rfl,h2⟩
  ·rw [h1];exact (A8.tuple (A8.cons (H9 3 _) (A8.keep _ _)) rfl).trans (h2.shift _)
  ·rw [h1];exact A8.tuple (A8.cons h2.shift (A8.keep _ _)) rfl⟩)
 refine F1 [] Tryz.func55 ?_
 refine B8 (fun h1=>?_) (fun h1=>?_)<;>rw [h1]<;>simp only [D5n,D5m] at h1
 ·rw [if_pos (.inl (by omega))] at hB;conv=>whnf
  exact .inl ⟨2,hB,rfl,E5.refl _⟩
 conv=>whnf
 refine B8 (fun h2=>?_) (fun h2=>?_)<;>rw [h2]<;>simp only [D5n,D5m] at h2
 ·rw [if_pos (.inr (by omega))] at hB;conv=>whnf
  exact .inl ⟨2,hB,rfl,E5.refl _⟩
 rw [if_neg (by omega)] at hB;conv=>whnf
 refine lp adds.length [0,1,6] (fun i vs t=>(∀ j,j<i→A0D (adds.getD j default)=false)∧vs=[A6 4 E3 items,A6 2 A4I adds,eI i]∧t=st) ?_ ?_
 ·conv=>whnf
  exact ⟨fun j hj=>absurd hj (by omega),rfl,rfl⟩
 rintro i vs t hi' ⟨hno,rfl,rfl⟩
 conv=>whnf
 cases h3:decide ((i:Int)<(adds.length:Int))
 case true =>
  have hi2:=D9 h3
  have hbad:A0D (adds.getD (i:Int).toNat default)=true→W1 items adds=([],2):=fun h=>by
   rw [if_pos (D6Q.2 ⟨_,A7 hi2,h⟩)] at hB;exact hB
  conv=>whnf
  refine E4 ?_
  refine B8 (fun h4=>?_) (fun h4=>?_)<;>rw [h4]
  ·conv=>whnf
   exact .inl ⟨2,hbad (by unfold A0D;rw [h4];rfl),rfl,E5.refl _⟩
  conv=>whnf
  refine E4 ?_
  refine B8 (fun h5=>?_) (fun h5=>?_)<;>rw [h5]
  ·conv=>whnf
   exact .inl ⟨2,hbad (by unfold A0D;rw [h5,D6c]),rfl,E5.refl _⟩
  conv=>whnf
  refine F8 ?_
  exact nx hi2 ⟨H4 hno (show A0D (adds.getD (i:Int).toNat default)=false by unfold A0D;rw [h4,h5];rfl),by rw [B3 (by omega)],rfl⟩
 obtain rfl:=C5 h3 hi'
 rw [if_neg (by
  rw [D6m,D6r]
  intro x hx
  obtain ⟨j,hj,rfl⟩:=D3 hx
  rw [hno j hj];simp)] at hB
 conv=>whnf
 refine lp adds.length [0,1,7,8] (fun i vs s=>∃ sv,(∀ j,j<i→(fun x:Add=>decide (O8 items x.sku<0)) (adds.getD j default)=false)∧vs=[A6 4 E3 items,A6 2 A4I adds,sv,eI i]∧E0 137 3 I0 ((adds.take i).map (J4 items)) t sv s) ?_ ?_
 ·conv=>whnf
  exact ⟨.emp,fun j hj=>absurd hj (by omega),rfl,E0.start _ _ _ _⟩
 rintro i vs s hi2 ⟨sv,hno2,rfl,hc⟩
 conv=>whnf
 cases h4:decide ((i:Int)<(adds.length:Int))
 case false =>
  obtain rfl:=C5 h4 hi2
  rw [D5w] at hc
  rw [if_neg (by
   rw [D6m,D6r]
   intro x hx
   obtain ⟨j,hj,rfl⟩:=D3 hx
   have:=hno2 j hj
   simp only at this
   rw [this];simp)] at hB
  conv=>whnf
  exact .inr ⟨sv,hB,rfl,hc⟩
 have hi3:=D9 h4
 have hF:=fun u=>B4n items (adds.getD (i:Int).toNat default).sku hi u
 have hln:((adds.take i).map (J4 items)).length=i:=by rw [D5p,D5v];omega
 have htk:(adds.take (i+1)).map (J4 items)=(adds.take i).map (J4 items)++[J4 items (adds.getD (i:Int).toNat default)]:=by rw [K1 hi3,D5P];rfl
 have hrng:=A8T (fun x:Ab.Item=>x.sku.toList==(adds.getD (i:Int).toNat default).sku.toList) items
 have hAL:J4 items (adds.getD (i:Int).toNat default)=⟨(adds.getD (i:Int).toNat default).sku,(adds.getD (i:Int).toNat default).qty,(items.getD (O8 items (adds.getD (i:Int).toNat default).sku).toNat default).price⟩:=rfl
 have hno3:=fun h=>H4 (q:=fun j=>(fun x:Add=>decide (O8 items x.sku<0)) (adds.getD j default)=false) hno2 h
 have hpos:(fun x:Add=>decide (O8 items x.sku<0)) (adds.getD (i:Int).toNat default)=true→W1 items adds=([],7):=fun h=>by
  rw [if_pos (D6Q.2 ⟨_,A7 hi3,h⟩)] at hB;exact hB
 have hf0:O8 items (adds.getD (i:Int).toNat default).sku=O8 items (adds.getD i default).sku:=rfl
 simp only at hpos hno3
 rw [←hf0] at hno3
 generalize hfv:O8 items (adds.getD (i:Int).toNat default).sku=FV at hF hpos hno3 hAL
 have hrng2 : -1≤FV∧FV<items.length:=by rw [←hfv];exact hrng
 conv=>whnf
 refine E4 ?_
 refine H8 (hF _) ?_
 refine B8 (fun h5=>?_) (fun h5=>?_)<;>rw [h5]
 ·conv=>whnf
  exact .inl ⟨7,hpos h5,rfl,hc.sup⟩
 have h5':=D5q h5
 conv=>whnf
 refine ⟨[17,18],[],List.range 20,by kernel_rfl,?_⟩;conv=>whnf
 refine E4 ?_
 refine E4 ?_
 refine E4 ?_
 refine E0.app (y:=J4 items (adds.getD (i:Int).toNat default)) (q:=C3w) rfl rfl rfl rfl rfl (by rw [hAL];rfl) (by rw [hln];show (i+1) * 32≤140737488355328;omega) hc (fun sv' t' hc'=>?_);conv=>whnf
 refine F8 ?_
 exact nx hi3 ⟨sv',hno3 h5,by rw [B3 (by omega)],by rw [htk];exact hc'⟩
def A0V (x:Add):Add:=⟨A1e (A2C x.sku),1+B9 x.qty 9⟩
def F6 (l:List Add):List Add:=if l.length=0 then [⟨⟨#[97]⟩,2⟩] else (l.take 6).map A0V
theorem B7I (l:List Add) (st:St):S P 54 [A6 2 A4I l] st fun v st'=>v=A6 2 A4I (F6 l)∧st'=st:=by
 refine S.post (post:=fun v s=>(l.length≠0∧E0 57 2 A4I ((l.take 6).map A0V) st v s)∨(l.length=0∧s=st∧∃ F:Nat→AV,F 0=A4I ⟨⟨#[97]⟩,2⟩∧v=.arr 2 1 F)) ?_ (fun v s hv=>⟨_,st,⟨rfl,rfl⟩,by
  unfold F6
  rcases hv with ⟨h,hc⟩ | ⟨h,rfl,F,hF,rfl⟩
  ·rw [if_neg h];exact hc.shift
  ·rw [if_pos h]
   exact A8.arr fun i hi=>by
    have:i=0:=by omega
    subst this;exact hF⟩)
 refine F1 [] Tryz.func54 ?_
 refine lp (min l.length 6) [0,3,4] (fun i vs s=>∃ sv,vs=[A6 2 A4I l,sv,eI i]∧E0 57 2 A4I ((l.take i).map A0V) st sv s) ?_ ?_
 ·conv=>whnf
  exact ⟨.emp,rfl,E0.start _ _ _ _⟩
 rintro i vs s hi ⟨sv,rfl,hc⟩
 have hfin:i=min l.length 6→(l.take i).map A0V=(l.take 6).map A0V:=fun e=>by
  rcases Nat.le_total l.length 6 with h | h
  ·rw [show i=l.length by omega,D5w,D7p h]
  ·rw [show i=6 by omega]
 have hlen:((l.take i).map A0V).length=i:=by rw [D5p,D5v];omega
 conv=>whnf
 refine B8 (fun h1=>?_) (fun h1=>?_)<;>rw [h1]<;>simp only [D5n,D5m] at h1
 case' refine_1 =>
  conv=>whnf
  refine B8 (fun h2=>?_) (fun h2=>?_)<;>rw [h2]<;>simp only [D5n,D5m] at h2
 case' refine_1.refine_1 =>
  have hi':i<min l.length 6:=by omega
  have htk:(l.take (i+1)).map A0V=(l.take i).map A0V++[A0V (l.getD (i:Int).toNat default)]:=A1D (by omega) A0V
  have hm:=D0 (l.getD (i:Int).toNat default).qty (n:=9) (by decide)
  have hw:IntKind.i64.wrap (1+B9 (l.getD (i:Int).toNat default).qty 9)=1+B9 (l.getD (i:Int).toNat default).qty 9:=A5 (by omega) (by omega)
  conv=>whnf
  refine ⟨[16,17],[],List.range 19,by kernel_rfl,?_⟩;conv=>whnf
  refine E4 ?_
  refine cqW (B1m (l.getD (i:Int).toNat default).sku _) ?_
  refine cqW (C3U (A2C (l.getD (i:Int).toNat default).sku) _) ?_
  refine E4 ?_
  refine cqW (A0x (l.getD (i:Int).toNat default).qty 9 (by decide) (by decide) _) ?_
  refine E0.app (q:=r57) (y:=A0V (l.getD (i:Int).toNat default)) rfl rfl rfl rfl rfl (by show AV.agg [_,AV.int _ (IntKind.i64.wrap (1+B9 (l.getD (i:Int).toNat default).qty 9))]=_;rw [hw];rfl) (by rw [hlen];show (i+1) * 24≤140737488355328;omega) hc (fun sv' s' hc'=>?_);conv=>whnf
  refine F8 ?_
  exact nx hi' ⟨sv',by rw [B3 (by omega)],by rw [htk];exact hc'⟩
 all_goals
  have hend:=hfin (by omega)
  rw [hend] at hc hlen
  rcases hc with ⟨hn,rfl,rfl⟩ | ⟨hn,b,g,hb,rfl,rfl,hg⟩
 case' refine_1.refine_2.inl | refine_2.inl =>
  conv=>whnf
  exact .inr ⟨by omega,rfl,_,rfl,rfl⟩
 case' refine_1.refine_2.inr | refine_2.inr =>
  have hz:(((((l.take 6).map A0V).length:Nat):Int)==0)=false:=by rw [D5X];omega
  conv=>whnf
  rw [hz];conv=>whnf
  exact .inl ⟨by omega,.inr ⟨hn,b,g,hb,rfl,rfl,hg⟩⟩
end Go.Proofs.YtaapofnkmpiknaaGreat
namespace Go.Ab
open Go
theorem C0W {w:World} {st st':St} (h:∀ b,st b=none↔st' b=none):A3p w st=A3p w st':=by
 funext a
 unfold A3p
 cases h1:st a.block with
 | none=>rw [(h _).1 h1]
 | some x =>
  cases h2:st' a.block with
  | none=>rw [(h _).2 h2] at h1;cases h1
  | some y=>rfl
theorem A8.cellG {vs:List AV} {st st2:St} {a i:Nat} {y:L6} {sv v' w':AV} {pre post:List AV} (h:A8 [sv] st [v'] st2) (hy:st a=some y) (hy2:st2 a=some y) (hi:i<y.n)
  (hf:cellsOf (y.f i)=pre++sv::post) (hw:cellsOf w'=pre++v'::post) (h1:v'.one=true):A8 vs st vs (upd st2 a { y with f:=H7 y.f i w' }):=fun w cs hS hR=>by
 obtain ⟨ds,hok⟩:=hS a y hy
 obtain ⟨c,hc1,hc2⟩:=hok.cell i pre.length sv hi (by rw [hf];show (pre++sv::post)[pre.length]?=some sv;simp)
 obtain ⟨hS2,hR2,hE⟩:=h w #[c] hS ⟨rfl,fun k z c' hz hc'=>by
  cases k with
  | zero=>simp at hz hc';subst hz;subst hc';exact hc2
  | succ k=>simp at hz⟩
 have hv:L8 w st2 v' c:=hR2.2 0 v' c rfl rfl
 have e:A3p w (upd st2 a { y with f:=H7 y.f i w' })=A3p w st2:=C0W fun b=>by
  by_cases eb:b=a
  ·subst eb;rw [A0,hy2];constructor<;>(intro h0;cases h0)
  ·rw [A9 eb]
 have hrep:∀ v c,L8 w st2 v c→L8 w (upd st2 a { y with f:=H7 y.f i w' }) v c:=fun v c hv=>by
  show Rep (A3p w _) _ _ _
  rw [e];exact hv
 refine ⟨fun b x hb=>?_,⟨hR.1,fun k y c hy hc=>hrep _ _ (hE.rep (hR.2 k y c hy hc))⟩,⟨hE.os,hE.tape,hE.output,hE.size,fun b hb hn=>⟨(hE.blk b hb hn).1,?_⟩,hE.szm⟩⟩
 ·by_cases eb:b=a
  ·subst eb
   rw [A0] at hb;cases hb
   obtain ⟨ds2,hok2⟩:=hS2 b y hy2
   have hds:ds2=ds:=by
    have h3:=hok2.heap
    rw [hok.heap] at h3
    cases h3;rfl
   subst hds
   have hlen:=hok2.len i hi
   have hone:=hok2.one i hi
   rw [hf] at hlen hone
   refine ⟨ds2,hok2.heap,hok2.size,fun k hk=>?_,fun k hk=>?_,fun k m z hk hz=>?_⟩
   ·by_cases ek:k=i
    ·subst ek
     show (cellsOf (H7 y.f k _ k)).length=y.e
     unfold H7;rw [if_pos rfl,←hlen]
     show (cellsOf w').length=(pre++sv::post).length
     rw [hw]
     simp
    ·show (cellsOf (H7 y.f i _ k)).length=y.e
     unfold H7;rw [if_neg ek];exact hok2.len k hk
   ·by_cases ek:k=i
    ·subst ek
     show (cellsOf (H7 y.f k _ k)).all AV.one=true
     unfold H7;rw [if_pos rfl]
     have hone':(pre++sv::post).all AV.one=true:=hone
     show (cellsOf w').all AV.one=true
     rw [hw]
     simp only [List.all_append,List.all_cons,D5r] at hone' ⊢
     exact ⟨hone'.1,h1,hone'.2.2⟩
    ·show (cellsOf (H7 y.f i _ k)).all AV.one=true
     unfold H7;rw [if_neg ek];exact hok2.one k hk
   ·have hz:(cellsOf (H7 y.f i w' k))[m]?=some z:=hz
    unfold H7 at hz
    by_cases ek:k=i
    ·subst ek
     rw [if_pos rfl] at hz
     have hz:(pre++v'::post)[m]?=some z:=by rw [←hw];exact hz
     by_cases em:m=pre.length
     ·subst em
      simp at hz
      subst hz
      exact ⟨c,hc1,hrep _ _ hv⟩
     ·have e3:(pre++sv::post)[m]?=some z:=by
       rw [←hz]
       by_cases hm:m<pre.length
       ·rw [D5J hm,D5J hm]
       ·rw [D5H (by omega),D5H (by omega)]
        obtain ⟨q,hq⟩:∃ q,m - pre.length=q+1:=⟨m - pre.length - 1,by omega⟩
        rw [hq];rfl
      obtain ⟨c',k1,k2⟩:=hok2.cell k m z hk (by rw [hf];exact e3)
      exact ⟨c',k1,hrep _ _ k2⟩
    ·rw [if_neg ek] at hz
     obtain ⟨c',k1,k2⟩:=hok2.cell k m z hk hz
     exact ⟨c',k1,hrep _ _ k2⟩
  ·rw [A9 eb] at hb
   obtain ⟨ds2,hok2⟩:=hS2 b x hb
   exact ⟨ds2,hok2.heap,hok2.size,hok2.len,hok2.one,fun k m z hk hz=>by
    obtain ⟨c',k1,k2⟩:=hok2.cell k m z hk hz
    exact ⟨c',k1,hrep _ _ k2⟩⟩
 ·have:=(hE.blk b hb hn).2
  have eb:b≠a:=fun h=>by rw [h,hy] at hn;cases hn
  rw [A9 eb];exact this
theorem A8.cell {vs:List AV} {st st2:St} {a i:Nat} {y:L6} {sv v':AV} {pre post:List AV} (h:A8 [sv] st [v'] st2) (hy:st a=some y) (hy2:st2 a=some y) (hi:i<y.n)
  (hf:y.f i=.agg (pre++sv::post)) (h1:v'.one=true):A8 vs st vs (upd st2 a { y with f:=H7 y.f i (.agg (pre++v'::post)) }) :=
 A8.cellG h hy hy2 hi (by rw [hf];rfl) rfl h1
end Go.Ab
namespace Go.Proofs.YtaapofnkmpiknaaGreat
open Go Go.Ab
attribute [local irreducible] upd del
theorem A8.pre {a b:List AV} {s t:St} (h:A8 a s b t):∀ l:List AV,A8 (l++a) s (l++b) t
 | []=>h
 | x::l=>A8.cons (A8.keep [x] s) (A8.pre h l)
abbrev B3P (l:List A2b):Nat→AV:=fun k=>U9 (l.getD k default)
theorem ROut.put {ty e n b:Nat} {fo:Nat→AV} {s t:St} {sv:AV} {y:L6} (h:ROut E5 ty e fo n (upd s b y) sv t) (y':L6):ROut E5 ty e fo n (upd s b y') sv (upd t b y'):=by
 have:=ROut.write (y':=y') J1 h (A0 ..)
 rwa [B6] at this
theorem B1n {l:List A2b} (h:l.length=0):P4 l=[⟨⟨[],[]⟩,2⟩]:=if_pos h
theorem B1o {l:List A2b} (h:l.length≠0):P4 l=(l.take 3).map Y6:=if_neg h
theorem C5O {l:List A2b} {i:Nat} (hi:i<min l.length 3):((l.take 3).map Y6).getD i default=Y6 (l.getD i default):=by
 rw [D5l,D6j,D5z (by omega),D5s (by omega),D5l,D5s (by omega)];rfl
set_option maxHeartbeats 80000000 in
theorem B5O (p:B1) (id:Int) (st:St):S P 156 [B7 p,eI id] st fun v st'=>v=B7 (A1R p id)∧st'=st:=by
 refine S.post (post:=fun v s=>(∃ W,v=.agg W∧E5 st s∧F0 W (cellsOf (B7 (A1R p id))))∨∃ (pre:List AV) (sv fin:AV) (base:St),v=.agg (pre++[sv,fin])∧A8 [sv] s [A6 3 U9 (P4 p.parts)] base∧E5 st base∧F0 (pre++[A6 3 U9 (P4 p.parts),fin]) (cellsOf (B7 (A1R p id)))) ?_ (fun v s h=>⟨_,st,⟨rfl,rfl⟩,by
   rcases h with ⟨W,h1,h3,h4⟩ | ⟨pre,sv,fin,base,h1,h2,h3,h4⟩
   ·rw [h1];exact (Le.shift (Le.agg h4) _).trans (h3.shift _)
   ·rw [h1]
    refine (A8.agg (A8.pre (A8.cons h2 (A8.keep [fin] _)) pre)).trans ?_
    exact (Le.shift (Le.agg h4) _).trans (h3.shift _)⟩)
 have hScope:=fun s=>B5U p.scope s
 obtain ⟨SC,hSC⟩:∃ SC,SC=P9 p.scope:=⟨_,rfl⟩
 rw [←hSC] at hScope
 have hId:=fun s=>D2B id s
 obtain ⟨I,hI⟩:∃ I,I=idN id:=⟨_,rfl⟩
 rw [←hI] at hId
 have hPr:=fun s=>A0x p.prio 5 (by decide) (by decide) s
 obtain ⟨PR,hPR⟩:∃ PR,PR=B9 p.prio 5:=⟨_,rfl⟩
 rw [←hPR] at hPr
 have hKd:=fun s=>A0x (IntKind.i64.wrap (p.kind - 1)) 7 (by decide) (by decide) s
 have hkm:=D0 (IntKind.i64.wrap (p.kind - 1)) (n:=7) (by decide)
 have hkw:IntKind.i64.wrap (1+B9 (IntKind.i64.wrap (p.kind - 1)) 7)=A3m p:=A5 (by omega) (by omega)
 have hK:=A5V p
 have hP:A1R p id=P1 p id (A3m p):=rfl
 rw [hP]
 generalize A3m p=K at hK hkw ⊢
 clear hP
 generalize B9 (IntKind.i64.wrap (p.kind - 1)) 7=KD at hKd hkw
 obtain ⟨G,hG⟩:∃ G,G=A1Q p:=⟨_,rfl⟩
 obtain ⟨C,hC⟩:∃ C,C=A3l p:=⟨_,rfl⟩
 obtain ⟨L,hL⟩:∃ L,L=A2W p:=⟨_,rfl⟩
 have wr:IntKind.i64.wrap (1+B9 p.rate 10000)=1+B9 p.rate 10000:=by have:=D0 p.rate (n:=10000) (by decide);exact A5 (by omega) (by omega)
 have wa:IntKind.i64.wrap (1+B9 p.amount 900)=1+B9 p.amount 900:=by have:=D0 p.amount (n:=900) (by decide);exact A5 (by omega) (by omega)
 have wb:IntKind.i64.wrap (1+B9 p.buy 3)=1+B9 p.buy 3:=by have:=D0 p.buy (n:=3) (by decide);exact A5 (by omega) (by omega)
 have wg:IntKind.i64.wrap (1+B9 p.get 2)=1+B9 p.get 2:=by have:=D0 p.get (n:=2) (by decide);exact A5 (by omega) (by omega)
 have hT5:=fun s=>A9E p.tiers 5000 (by decide) (by decide) s
 obtain ⟨TS,hTS⟩:∃ TS,TS=P5 p.tiers 5000:=⟨_,rfl⟩
 rw [←hTS] at hT5
 have hT6:=fun s=>A9E p.tiers 5 (by decide) (by decide) s
 obtain ⟨TU,hTU⟩:∃ TU,TU=P5 p.tiers 5:=⟨_,rfl⟩
 rw [←hTU] at hT6
 have hA3:=fun s=>O9 p.amount 3000 (by decide) (by decide) s
 obtain ⟨A3,hA⟩:∃ A3,A3=B9 p.amount 3000:=⟨_,rfl⟩
 rw [←hA] at hA3
 refine F1 [2] Tryz.func156 ?_
 intro b4 hb4;conv=>whnf
 refine ⟨[16,17],[1,3,5,8,9,11,13,14],List.range 18,by kernel_rfl,?_⟩;conv=>whnf
 refine ⟨_,fun s _=>I5 (hId s),?_⟩;conv=>whnf
 refine ⟨_,fun s _=>⟨rfl,rfl⟩,?_⟩;conv=>whnf
 refine ⟨_,fun s _=>I5 (hKd s),?_⟩;conv=>whnf
 refine ⟨_,fun s _=>⟨rfl,rfl⟩,?_⟩;conv=>whnf
 refine ⟨_,fun s _=>I5 (hPr s),?_⟩;conv=>whnf
 refine ⟨_,fun s _=>⟨rfl,rfl⟩,?_⟩;conv=>whnf
 refine ⟨_,fun s _=>⟨rfl,rfl⟩,?_⟩;conv=>whnf
 refine ⟨_,fun s _=>I5 (hScope s),?_⟩;conv=>whnf
 intro b5 hb5
 have hne:b4≠b5:=fun e=>by subst e;rw [A0] at hb5;cases hb5
 conv=>whnf
 refine stU (A0 ..) rfl ?_
 rw [B6,hkw]
 have hst:∀ Y:L6,E5 st (upd (upd st b4 ⟨206,15,1,fun _=>H1 B7P.zero⟩) b5 Y):=fun Y=>((E5.refl st).upd hb4).upd hb5
 conv=>whnf
 refine H8 (B1m _ _) ?_
 refine H8 (A0x _ 3 (by decide) (by decide) _) ?_
 cases hg:(B9 (A2C p.group) 3==1)
 case' true =>
  have hgv:(⟨#[103]⟩:C8)++B1T ([]++[IntKind.u8.wrap (48+IntKind.u8.wrap (B9 p.group.size 2))])=G:=by rw [hG,B2c];exact (if_pos (by simpa using hg)).symm
  conv=>whnf
  refine H8 (A0x _ 2 (by decide) (by decide) _) ?_
  rw [hgv]
  refine stU (A0 ..) (A4 ..) ?_
  rw [B6]
 case' false =>
  have hG0:(⟨#[]⟩:C8)=G:=by rw [hG];exact (if_neg (by simpa using hg)).symm
 all_goals
  conv=>whnf
  refine H8 (B1m _ _) ?_
  refine H8 (A0x _ 3 (by decide) (by decide) _) ?_
  cases hcd:(B9 (A2C p.code) 3==1)
  case' true =>
   have hcv:A5e p.code.size=C:=by rw [hC];exact (if_pos (by simpa using hcd)).symm
   conv=>whnf
   refine H8 (C2v _ _) ?_
   rw [hcv]
   refine stU (A0 ..) (A4 ..) ?_
   rw [B6]
  case' false =>
   have hC0:(⟨#[]⟩:C8)=C:=by rw [hC];exact (if_neg (by simpa using hcd)).symm
  all_goals
   conv=>whnf
   refine H8 (O9 _ 3 (by decide) (by decide) _) ?_
   cases hl:(B9 p.least 3==1)
   case' true =>
    have hlv:B9 p.least 9000=L:=by rw [hL];exact (if_pos (by simpa using hl)).symm
    conv=>whnf
    refine H8 (O9 _ 9000 (by decide) (by decide) _) ?_
    rw [hlv]
    refine stU (A0 ..) (A4 ..) ?_
    rw [B6]
   case' false =>
    have hL0:(0:Int)=L:=by rw [hL];exact (if_neg (by simpa using hl)).symm
   all_goals
    conv=>whnf
    refine ldV (A0 ..) rfl (by omega) (A4 ..) ?_
    rcases (show K=1∨K=2∨K=3∨K=4∨K=5∨K=6∨K=7 by omega) with rfl | rfl | rfl | rfl | rfl | rfl | rfl
    ·rw [show cellsOf (B7 (P1 p id 1))=[eS (I),eI 1,eI (PR),eS (G),eS (C),eB p.closes,C7 (SC).skus,C7 (SC).cats,eI (L),eI (1+B9 p.rate 10000),eI 0,eI 0,eI 0,A6 3 U9 [],A6 3 R1 []] from by rw [hI,hPR,hG,hC,hL,hSC];rfl]
     (try subst hG0);(try subst hC0);(try subst hL0)
     conv=>whnf
     refine H8 (O9 _ 10000 (by decide) (by decide) _) ?_
     rw [wr]
     refine stU (A0 ..) (A4 ..) ?_
     rw [B6];conv=>whnf
     refine I1 (A0 ..) (A4 ..) ?_
     refine X1 (by rw [A9 hne];exact A0 ..) rfl ?_
     refine I1 (A0 ..) (A4 ..) ?_
     exact .inl ⟨_,rfl,(hst _).over hb4,F0.cons (Le.refl _) (F0.cons (Le.refl _) (F0.cons (Le.refl _) (F0.cons (Le.refl _) (F0.cons (Le.refl _) (F0.cons (Le.refl _) (F0.cons (Le.refl _) (F0.cons (Le.refl _) (F0.cons (Le.refl _) (F0.cons (Le.refl _) (F0.cons (Le.refl _) (F0.cons (Le.refl _) (F0.cons (Le.refl _) (F0.cons (Le.emp _ _) (F0.cons (Le.emp _ _) (F0.nil)))))))))))))))⟩
    ·rw [show cellsOf (B7 (P1 p id 2))=[eS (I),eI 2,eI (PR),eS (G),eS (C),eB p.closes,C7 (SC).skus,C7 (SC).cats,eI (L),eI 0,eI (1+B9 p.amount 900),eI 0,eI 0,A6 3 U9 [],A6 3 R1 []] from by rw [hI,hPR,hG,hC,hL,hSC];rfl]
     (try subst hG0);(try subst hC0);(try subst hL0)
     conv=>whnf
     refine H8 (O9 _ 900 (by decide) (by decide) _) ?_
     rw [wa]
     refine stU (A0 ..) (A4 ..) ?_
     rw [B6];conv=>whnf
     refine I1 (A0 ..) (A4 ..) ?_
     refine X1 (by rw [A9 hne];exact A0 ..) rfl ?_
     refine I1 (A0 ..) (A4 ..) ?_
     exact .inl ⟨_,rfl,(hst _).over hb4,F0.cons (Le.refl _) (F0.cons (Le.refl _) (F0.cons (Le.refl _) (F0.cons (Le.refl _) (F0.cons (Le.refl _) (F0.cons (Le.refl _) (F0.cons (Le.refl _) (F0.cons (Le.refl _) (F0.cons (Le.refl _) (F0.cons (Le.refl _) (F0.cons (Le.refl _) (F0.cons (Le.refl _) (F0.cons (Le.refl _) (F0.cons (Le.emp _ _) (F0.cons (Le.emp _ _) (F0.nil)))))))))))))))⟩
    ·rw [show cellsOf (B7 (P1 p id 3))=[eS (I),eI 3,eI (PR),eS (G),eS (C),eB p.closes,C7 (SC).skus,C7 (SC).cats,eI (L),eI (1+B9 p.rate 10000),eI 0,eI (1+B9 p.buy 3),eI (1+B9 p.get 2),A6 3 U9 [],A6 3 R1 []] from by rw [hI,hPR,hG,hC,hL,hSC];rfl]
     (try subst hG0);(try subst hC0);(try subst hL0)
     conv=>whnf
     refine ⟨[13,15,17],[],List.range 18,by kernel_rfl,?_⟩;conv=>whnf
     refine cqW (O9 _ 10000 (by decide) (by decide) _) ?_
     rw [wr]
     refine cqW (A0x _ 3 (by decide) (by decide) _) ?_
     rw [wb]
     refine cqW (A0x _ 2 (by decide) (by decide) _) ?_
     rw [wg]
     refine stU (A0 ..) (A4 ..) ?_
     rw [B6];conv=>whnf
     refine stU (A0 ..) (A4 ..) ?_
     rw [B6];conv=>whnf
     refine stU (A0 ..) (A4 ..) ?_
     rw [B6];conv=>whnf
     refine I1 (A0 ..) (A4 ..) ?_
     refine X1 (by rw [A9 hne];exact A0 ..) rfl ?_
     refine I1 (A0 ..) (A4 ..) ?_
     exact .inl ⟨_,rfl,(hst _).over hb4,F0.cons (Le.refl _) (F0.cons (Le.refl _) (F0.cons (Le.refl _) (F0.cons (Le.refl _) (F0.cons (Le.refl _) (F0.cons (Le.refl _) (F0.cons (Le.refl _) (F0.cons (Le.refl _) (F0.cons (Le.refl _) (F0.cons (Le.refl _) (F0.cons (Le.refl _) (F0.cons (Le.refl _) (F0.cons (Le.refl _) (F0.cons (Le.emp _ _) (F0.cons (Le.emp _ _) (F0.nil)))))))))))))))⟩
    ·rw [show cellsOf (B7 (P1 p id 4))=[eS (I),eI 4,eI (PR),eS (G),eS (C),eB p.closes,C7 [],C7 [],eI (L),eI 0,eI (A3),eI 0,eI 0,A6 3 U9 (P4 p.parts),A6 3 R1 []] from by rw [hI,hPR,hG,hC,hL,hA];rfl];conv=>whnf
     refine H8 (hA3 _) ?_
     refine stU (A0 ..) (A4 ..) ?_
     rw [B6];conv=>whnf
     refine stU (A0 ..) (A4 ..) ?_
     rw [B6];conv=>whnf
     refine lp (min p.parts.length 3) [2,4,5,6] (fun i vs s=>∃ sv f,vs=[.fptr (B7 p) 0,.optr 15 b4 0 0,.optr 15 b5 0 0,eI i]∧f 0=.agg ([eS I,eI 4,eI PR,eS G,eS C,eB p.closes,.emp,.emp,eI L,eI 0,eI A3,eI 0,eI 0]++[sv,.emp])∧ROut E5 259 3 (B3P ((p.parts.take 3).map Y6)) i (upd (upd st b4 ⟨206,15,1,fun _=>H1 B7P.zero⟩) b5 ⟨206,15,1,f⟩) sv s) ?_ ?_
     ·conv=>whnf
      exact ⟨.emp,_,rfl,by (try rw [←hG0]);(try rw [←hC0]);(try rw [←hL0]);first | rfl | (rw [A4];rfl),ROut.start (E5.refl _) _ _ _⟩
     ·rintro i vs s hi ⟨sv,f,rfl,hf,hR⟩
      have hsup:=ROut.sup J1 hR
      have at5:s b5=some ⟨206,15,1,f⟩:=hsup b5 _ (A0 ..)
      have at4:s b4=some ⟨206,15,1,fun _=>H1 B7P.zero⟩:=hsup b4 _ (by rw [A9 hne];exact A0 ..)
      have n5:st b5=none:=by rw [A9 (Ne.symm hne)] at hb5;exact hb5
      conv=>whnf
      refine B8 (fun h1=>?_) (fun h1=>?_)<;>rw [h1]<;>simp only [D5n,D5m] at h1
      case' refine_1 =>
       conv=>whnf
       refine B8 (fun h2=>?_) (fun h2=>?_)<;>rw [h2]<;>simp only [D5n,D5m] at h2
      case refine_1.refine_1 =>
       have hi':i<min p.parts.length 3:=by omega
       have hsc2:=fun s=>B5U (p.parts.getD (i:Int).toNat default).scope s
       have hpa:=C5O hi'
       have hm2:=D0 (p.parts.getD (i:Int).toNat default).count (n:=2) (by decide)
       have wc:IntKind.i64.wrap (1+B9 (p.parts.getD (i:Int).toNat default).count 2)=1+B9 (p.parts.getD (i:Int).toNat default).count 2:=A5 (by omega) (by omega)
       have hpp:U9 (Y6 (p.parts.getD i default))=.agg [C7 (P9 (p.parts.getD (i:Int).toNat default).scope).skus,C7 (P9 (p.parts.getD (i:Int).toNat default).scope).cats,eI (1+B9 (p.parts.getD (i:Int).toNat default).count 2)]:=rfl
       generalize P9 (p.parts.getD (i:Int).toNat default).scope=S2 at hsc2 hpp
       rcases ROut.head hR with rfl | ⟨bp,rfl⟩
       all_goals
        conv=>whnf
        refine ⟨[19,21],[15],List.range 22,by kernel_rfl,?_⟩;conv=>whnf
        refine I1 at5 hf ?_
        refine E4 ?_
        refine cqW (hsc2 _) ?_
        refine E4 ?_
        refine ⟨_,fun s _=>I5 (A0x _ 2 (by decide) (by decide) s),?_⟩;conv=>whnf
        rw [wc]
        refine ⟨_,⟨rfl,rfl⟩,?_⟩;conv=>whnf
        refine ROut.app (q:=C7S) J1 rfl rfl rfl rfl rfl (f:=B3P ((p.parts.take 3).map Y6)) (by show _=U9 _;rw [hpa,hpp];rfl) (by show (i+1) * 56≤140737488355328;omega) hR (fun sv' t2 hR2=>?_)
        have at5':t2 b5=some ⟨206,15,1,f⟩:=ROut.sup J1 hR2 b5 _ (A0 ..)
        rcases ROut.head hR2 with rfl | ⟨bp',rfl⟩
        all_goals
         conv=>whnf
         refine X1 at5' hf ?_
         refine F8 ?_
         exact nx hi' ⟨_,_,by rw [B3 (by omega)],(by rw [A4];rfl),ROut.put hR2 _⟩
      all_goals
       have hie:i=min p.parts.length 3:=by omega
       obtain ⟨s0,hcol,hss⟩:=hR
       rcases hcol with ⟨h0,rfl,rfl⟩ | ⟨h0,bp,g,hbp,rfl,rfl,hgg⟩
       ·have hPP:=B1n (l:=p.parts) (by omega)
        subst h0
        rw [hPP];conv=>whnf
        refine I1 at5 hf ?_
        refine X1 at5 hf ?_
        refine I1 (A0 ..) (A4 ..) ?_
        refine X1 (by rw [A9 hne];exact at4) rfl ?_
        refine I1 (A0 ..) (A4 ..) ?_
        exact .inl ⟨_,rfl,((((E5.refl st).upd hb4).upd hb5).trans hss |>.over n5).over hb4,F0.cons (Le.refl _) (F0.cons (Le.refl _) (F0.cons (Le.refl _) (F0.cons (Le.refl _) (F0.cons (Le.refl _) (F0.cons (Le.refl _) (F0.cons (Le.emp _ _) (F0.cons (Le.emp _ _) (F0.cons (Le.refl _) (F0.cons (Le.refl _) (F0.cons (Le.refl _) (F0.cons (Le.refl _) (F0.cons (Le.refl _) (F0.cons (Le.arr1 (F0.cons (Le.emp _ _) (F0.cons (Le.emp _ _) (F0.cons (Le.refl _) F0.nil))) rfl) (F0.cons (Le.emp _ _) (F0.nil)))))))))))))))⟩
       ·have hPP:=B1o (l:=p.parts) (by omega)
        have hAP:A6 3 U9 (P4 p.parts)=.arr 3 i (B3P ((p.parts.take 3).map Y6)):=by unfold A6;rw [hPP,show ((p.parts.take 3).map Y6).length=i by rw [D5p,D5v];omega]
        have hR3:ROut E5 259 3 (B3P ((p.parts.take 3).map Y6)) i (upd (upd st b4 ⟨206,15,1,fun _=>H1 B7P.zero⟩) b5 ⟨206,15,1,f⟩) (.own 3 bp 0 i) s:=⟨_,.inr ⟨h0,bp,g,hbp,rfl,rfl,hgg⟩,hss⟩
        conv=>whnf
        refine I1 at5 hf ?_
        rw [show ((i:Int)==0)=false by rw [D5X];omega];conv=>whnf
        refine I1 at5 hf ?_
        refine X1 at4 rfl ?_
        refine I1 (A0 ..) (A4 ..) ?_
        obtain ⟨base,hsh,hsb⟩:=ROut.shift J1 (ROut.write J1 hR3 (b:=b4) (by rw [A9 hne];exact A0 ..))
        refine .inr ⟨[eS I,eI 4,eI PR,eS G,eS C,eB p.closes,.emp,.emp,eI L,eI 0,eI A3,eI 0,eI 0],.own 3 bp 0 i,.emp,base,rfl,by rw [hAP];exact hsh,((((E5.refl st).upd hb4).upd hb5).over hb4).trans hsb,F0.cons (Le.refl _) (F0.cons (Le.refl _) (F0.cons (Le.refl _) (F0.cons (Le.refl _) (F0.cons (Le.refl _) (F0.cons (Le.refl _) (F0.cons (Le.emp _ _) (F0.cons (Le.emp _ _) (F0.cons (Le.refl _) (F0.cons (Le.refl _) (F0.cons (Le.refl _) (F0.cons (Le.refl _) (F0.cons (Le.refl _) (F0.cons (Le.refl _) (F0.cons (Le.emp _ _) (F0.nil)))))))))))))))⟩
    ·rw [show cellsOf (B7 (P1 p id 5))=[eS (I),eI 5,eI (PR),eS (G),eS (C),eB p.closes,C7 (SC).skus,C7 (SC).cats,eI (L),eI 0,eI 0,eI 0,eI 0,A6 3 U9 [],A6 3 R1 (TS)] from by rw [hI,hPR,hG,hC,hL,hSC,hTS];rfl]
     (try subst hG0);(try subst hC0);(try subst hL0)
     conv=>whnf
     refine H8 (hT5 _) ?_
     refine stU (A0 ..) (A4 ..) ?_
     rw [B6];conv=>whnf
     refine I1 (A0 ..) (A4 ..) ?_
     refine X1 (by rw [A9 hne];exact A0 ..) rfl ?_
     refine I1 (A0 ..) (A4 ..) ?_
     exact .inl ⟨_,rfl,(hst _).over hb4,F0.cons (Le.refl _) (F0.cons (Le.refl _) (F0.cons (Le.refl _) (F0.cons (Le.refl _) (F0.cons (Le.refl _) (F0.cons (Le.refl _) (F0.cons (Le.refl _) (F0.cons (Le.refl _) (F0.cons (Le.refl _) (F0.cons (Le.refl _) (F0.cons (Le.refl _) (F0.cons (Le.refl _) (F0.cons (Le.refl _) (F0.cons (Le.emp _ _) (F0.cons (Le.refl _) (F0.nil)))))))))))))))⟩
    ·rw [show cellsOf (B7 (P1 p id 6))=[eS (I),eI 6,eI (PR),eS (G),eS (C),eB p.closes,C7 (SC).skus,C7 (SC).cats,eI (L),eI 0,eI 0,eI 0,eI 0,A6 3 U9 [],A6 3 R1 (TU)] from by rw [hI,hPR,hG,hC,hL,hSC,hTU];rfl]
     (try subst hG0);(try subst hC0);(try subst hL0)
     conv=>whnf
     refine H8 (hT6 _) ?_
     refine stU (A0 ..) (A4 ..) ?_
     rw [B6];conv=>whnf
     refine I1 (A0 ..) (A4 ..) ?_
     refine X1 (by rw [A9 hne];exact A0 ..) rfl ?_
     refine I1 (A0 ..) (A4 ..) ?_
     exact .inl ⟨_,rfl,(hst _).over hb4,F0.cons (Le.refl _) (F0.cons (Le.refl _) (F0.cons (Le.refl _) (F0.cons (Le.refl _) (F0.cons (Le.refl _) (F0.cons (Le.refl _) (F0.cons (Le.refl _) (F0.cons (Le.refl _) (F0.cons (Le.refl _) (F0.cons (Le.refl _) (F0.cons (Le.refl _) (F0.cons (Le.refl _) (F0.cons (Le.refl _) (F0.cons (Le.emp _ _) (F0.cons (Le.refl _) (F0.nil)))))))))))))))⟩
    ·rw [show cellsOf (B7 (P1 p id 7))=[eS (I),eI 7,eI (PR),eS (G),eS (C),eB false,C7 [],C7 [],eI (L),eI (1+B9 p.rate 10000),eI 0,eI 0,eI 0,A6 3 U9 [],A6 3 R1 []] from by rw [hI,hPR,hG,hC,hL];rfl]
     (try subst hG0);(try subst hC0);(try subst hL0)
     conv=>whnf
     refine H8 (O9 _ 10000 (by decide) (by decide) _) ?_
     rw [wr]
     refine stU (A0 ..) (A4 ..) ?_
     rw [B6];conv=>whnf
     refine stU (A0 ..) (A4 ..) ?_
     rw [B6];conv=>whnf
     refine stU (A0 ..) (A4 ..) ?_
     rw [B6];conv=>whnf
     refine I1 (A0 ..) (A4 ..) ?_
     refine X1 (by rw [A9 hne];exact A0 ..) rfl ?_
     refine I1 (A0 ..) (A4 ..) ?_
     exact .inl ⟨_,rfl,(hst _).over hb4,F0.cons (Le.refl _) (F0.cons (Le.refl _) (F0.cons (Le.refl _) (F0.cons (Le.refl _) (F0.cons (Le.refl _) (F0.cons (Le.refl _) (F0.cons (Le.emp _ _) (F0.cons (Le.emp _ _) (F0.cons (Le.refl _) (F0.cons (Le.refl _) (F0.cons (Le.refl _) (F0.cons (Le.refl _) (F0.cons (Le.refl _) (F0.cons (Le.emp _ _) (F0.cons (Le.emp _ _) (F0.nil)))))))))))))))⟩
theorem C5r (i:Nat) (h:i<6):Int.tmod (IntKind.i64.wrap (IntKind.i64.wrap ((i:Int) * 7)+3)) 10=C0l i:=by
 rw [A5 (x:=(i:Int) * 7) (by omega) (by omega),A5 (by omega) (by omega),D6Y (by omega)];rfl
theorem B4i (l:List B1) (st:St):S P 101 [A6 15 B7 l] st fun v st'=>v=A6 15 B7 (N1 l)∧st'=st:=by
 refine A0A (ty:=206) ?_
 have hat:∀ i,i<6→X0 l i=A1R (l.getD (i:Int).toNat default) (Int.tmod (IntKind.i64.wrap (IntKind.i64.wrap ((i:Int) * 7)+3)) 10):=fun i hi=>by rw [C5r i hi];rfl
 have hPl:N1 l=(List.range (min l.length 6)).map (X0 l):=rfl
 rw [hPl]
 have hnext:=A5N (X0 l)
 have hS:=fun i=>B5O (l.getD (i:Nat) default)
 generalize X0 l=F at hat hnext ⊢
 refine F1 [] Tryz.func101 ?_
 refine lp (min l.length 6) [0,3,4] (fun i vs s=>∃ sv,vs=[A6 15 B7 l,sv,eI i]∧E0 206 15 B7 ((List.range i).map F) st sv s) ?_ ?_
 ·conv=>whnf
  exact ⟨.emp,rfl,E0.start _ _ _ _⟩
 ·rintro i vs s hi ⟨sv,rfl,hc⟩
  have hfin:i=min l.length 6→E0 206 15 B7 ((List.range (min l.length 6)).map F) st sv s:=fun e=>by rw [←e];exact hc
  have hlen:((List.range i).map F).length=i:=by rw [D5p,D5O]
  conv=>whnf
  refine B8 (fun h1=>?_) (fun h1=>?_)<;>rw [h1]<;>simp only [D5n,D5m] at h1
  ·conv=>whnf
   refine B8 (fun h2=>?_) (fun h2=>?_)<;>rw [h2]<;>simp only [D5n,D5m] at h2
   ·have hi':i<min l.length 6:=by omega
    have hF:=hat i (by omega)
    conv=>whnf
    refine E4 ?_
    refine B4 (hS (i:Int).toNat _ _) ?_
    generalize hid:Int.tmod (IntKind.i64.wrap (IntKind.i64.wrap ((i:Int) * 7)+3)) 10=ID at hF
    generalize A1R (l.getD (i:Int).toNat default) ID=Y at hF
    conv=>whnf
    refine E0.app (y:=Y) (q:=B7P) rfl rfl rfl rfl rfl (by rfl) (by rw [hlen];show (i+1) * 208≤140737488355328;omega) hc (fun sv' t' hc'=>?_);conv=>whnf
    refine F8 ?_
    refine nx hi' ⟨sv',by rw [B3 (by omega)],?_⟩
    rw [hnext,hF];exact hc'
   ·conv=>whnf
    exact hfin (by omega)
  ·conv=>whnf
   exact hfin (by omega)
abbrev A7j (l:List G4):Nat→AV:=fun i=>A0N (l.getD i default)
def A2q (zs:Nat→List G4) (sv:Nat→AV):Nat→St→St→Prop
 | 0=>E5
 | k+1=>fun s t=>ROut (A2q zs sv k) 209 2 (A7j (zs k)) (zs k).length s (sv k) t
theorem A2e (zs:Nat→List G4) (sv:Nat→AV):∀ k,K9 (A2q zs sv k)
 | 0=>J1
 | k+1=>T7 (A2e zs sv k) _ _ _ _ _
theorem A9u {zs zs':Nat→List G4} {sv sv':Nat→AV}:∀ (k:Nat) {s t:St},(∀ j,j<k→zs j=zs' j∧sv j=sv' j)→A2q zs sv k s t→A2q zs' sv' k s t
 | 0,s,t,_,h=>h
 | k+1,s,t,he,h=>by
  obtain ⟨s0,h1,h2⟩:=h
  obtain ⟨e1,e2⟩:=he k (D8e k)
  rw [e1,e2] at h1
  exact ⟨s0,h1,A9u k (fun j hj=>he j (Nat.lt_succ_of_lt hj)) h2⟩
theorem A7V {bz n ty:Nat} {zs:Nat→List G4} {sv:Nat→AV} {nm:Nat→C8} {r1 r2:Nat→Int}:∀ (k:Nat) (s t:St) (g:Nat→AV),k≤n→A2q zs sv k s t→s bz=some ⟨ty,4,n,g⟩→(∀ j,j<k→g j=.agg [eS (nm j),sv j,eI (r1 j),eI (r2 j)]) →
  ∃ t' g',(∀ vs,A8 vs t vs t')∧E5 (upd s bz ⟨ty,4,n,g'⟩) t'∧(∀ j,j<k→g' j=.agg [eS (nm j),A6 2 A0N (zs j),eI (r1 j),eI (r2 j)])∧∀ j,k≤j→g' j=g j
 | 0,s,t,g,hk,h,hs,hg=>by
  refine ⟨t,g,fun vs=>A8.refl _ _,fun b x hb=>?_,fun j hj=>absurd hj (by omega),fun j _=>rfl⟩
  by_cases e:b=bz
  ·subst e;rw [A0] at hb;cases hb;exact h _ _ hs
  ·rw [A9 e] at hb;exact h _ _ hb
 | k+1,s,t,g,hk,h,hs,hg=>by
  have hB:=A2e zs sv k
  have ht:t bz=some ⟨ty,4,n,g⟩:=(A2e zs sv (k+1)).sup h _ _ hs
  obtain ⟨t1,hsh,hc⟩:=ROut.shift hB h
  have ht1:t1 bz=some ⟨ty,4,n,g⟩:=hB.sup hc _ _ hs
  have hcell:=fun vs=>A8.cell (vs:=vs) (pre:=[eS (nm k)]) (post:=[eI (r1 k),eI (r2 k)]) hsh ht ht1 (show k<n by omega) (hg k (by omega)) rfl
  have hc':=hB.write (y':=⟨ty,4,n,H7 g k (.agg ([eS (nm k)]++AV.arr 2 (zs k).length (A7j (zs k))::[eI (r1 k),eI (r2 k)]))⟩) hc hs
  obtain ⟨t',g',k1,k2,k3,k4⟩:=A7V (nm:=nm) (r1:=r1) (r2:=r2) k _ _ _ (by omega) hc' (A0 ..) (fun j hj=>by rw [H3 (by omega)];exact hg j (by omega))
  rw [B6] at k2
  refine ⟨t',g',fun vs=>(hcell vs).trans (k1 vs),k2,fun j hj=>?_,fun j hj=>?_⟩
  ·by_cases e:j=k
   ·subst e;rw [k4 j (D5u _),A4];rfl
   ·exact k3 j (by omega)
  ·rw [k4 j (by omega),H3 (by omega)]
theorem C4z (k:Nat) (h:k<3):(⟨#[122]⟩:C8)++B1T ([]++[IntKind.u8.wrap (48+IntKind.u8.wrap (k:Int))])=P7 k:=by rw [B2c];rfl
theorem B5Q {l:List K2} {k:Nat} (h:k<l.length):D5 l k=⟨P7 k,S3 (l.getD k default).rates,B9 (l.getD k default).rest 3000,B9 (l.getD k default).ship 3000⟩:=if_pos h
theorem B4k {l:List K2} {k:Nat} (h:¬ k<l.length):D5 l k=⟨P7 k,[],1000 * k,500 * k⟩:=if_neg h
theorem C5Z {l:List G4} {c:Nat} (hc:c<min 3 l.length):(S3 l).getD c default=A8k l c:=by
 unfold S3
 rw [D5l,D6j,D6P hc];rfl
abbrev B2j (z:K2) (rv:AV):AV:=.agg [eS z.name,rv,eI z.rest,eI z.ship]
def ZO (t:Tax) (k:Nat) (base:St) (zv:AV) (s:St):Prop :=
 ∃ (sv g:Nat→AV),ROut (A2q (fun j=>(D5 t.zones j).rates) sv k) 103 4 g k base zv s∧∀ j,j<k→g j=B2j (D5 t.zones j) (sv j)
theorem ZO.end {t:Tax} {base s:St} {zv:AV} (h:ZO t 3 base zv s):∃ t',A8 [zv] s [A6 4 R8 (K8 t).zones] t'∧E5 base t':=by
 obtain ⟨sv,g,⟨s1,hcol,hch⟩,hg⟩:=h
 rcases hcol with ⟨h0,_,_⟩ | ⟨h0,bz,g0,hbz,rfl,rfl,hgg⟩
 ·cases h0
 obtain ⟨t',g',hsh,hsup,hg',_⟩:=A7V (nm:=fun j=>(D5 t.zones j).name) (r1:=fun j=>(D5 t.zones j).rest) (r2:=fun j=>(D5 t.zones j).ship) 3 _ s g0 (D5u _) hch (A0 ..) (fun j hj=>by rw [hgg j hj,hg j hj])
 rw [B6] at hsup
 refine ⟨del t' bz,(hsh _).trans (N4 (hsup bz _ (A0 ..)) rfl (D5u _) fun i hi=>?_),?_⟩
 ·show g' i=R8 ((K8 t).zones.getD i default)
  rw [hg' i hi]
  have:(K8 t).zones.getD i default=D5 t.zones i:=by
   show ((List.range 3).map (D5 t.zones)).getD i default=_
   rw [D5l,D6j,D6P hi];rfl
  rw [this];rfl
 ·exact E5.del (((E5.refl base).upd hbz).trans hsup) hbz
theorem ZO.next {t:Tax} {k:Nat} {base s1 s:St} {zv rv:AV} {sv g:Nat→AV} (hcol:Col 103 4 g base k zv s1) (hR:ROut (A2q (fun j=>(D5 t.zones j).rates) sv k) 209 2 (A7j (D5 t.zones k).rates) (D5 t.zones k).rates.length s1 rv s) (hg:∀ j,j<k→g j=B2j (D5 t.zones j) (sv j)) :
  ∃ sv' g',ROut (A2q (fun j=>(D5 t.zones j).rates) sv' (k+1)) 103 4 g' k base zv s∧sv' k=rv∧(∀ j,j<k+1→g' j=B2j (D5 t.zones j) (sv' j)):=by
 have hsv:∀ j,j<k→sv j=(fun j=>if j=k then rv else sv j) j:=fun j hj=>by simp only;rw [if_neg (by omega)]
 refine ⟨fun j=>if j=k then rv else sv j,fun j=>B2j (D5 t.zones j) (if j=k then rv else sv j),⟨s1,Col.congr hcol fun j hj=>by rw [hg j hj];show B2j _ _=B2j _ (if j=k then rv else sv j);rw [if_neg (by omega)],?_⟩,by simp,fun j _=>rfl⟩
 obtain ⟨s2,h1,h2⟩:=hR
 refine ⟨s2,?_,A9u k (fun j hj=>⟨rfl,hsv j hj⟩) h2⟩
 simp only [if_true];exact h1
theorem B6u {R:St→St→Prop} {ty e n b:Nat} {fo:Nat→AV} {base s:St} {zv:AV} {y:L6} (h:ROut R ty e fo n (upd base b y) zv (upd s b y)) (ty' e':Nat) (fo':Nat→AV):∃ s1,Col ty e fo (upd base b y) n zv s1∧ROut R ty' e' fo' 0 s1 .emp (upd s b y):=by
 obtain ⟨s1,h1,h2⟩:=h
 exact ⟨s1,h1,ROut.start h2 _ _ _⟩
theorem C6m {R:St→St→Prop} (hR:K9 R) {ty e n b ty' e' m:Nat} {fo fo':Nat→AV} {base s1 t:St} {zv rv:AV} {y:L6} (h1:Col ty e fo (upd base b y) n zv s1) (h2:ROut R ty' e' fo' m s1 rv t) (y':L6) :
  ∃ s1',Col ty e fo (upd base b y') n zv s1'∧ROut R ty' e' fo' m s1' rv (upd t b y'):=by
 have h3:=Col.write (y':=y') h1 (A0 ..)
 rw [B6] at h3
 exact ⟨_,h3,ROut.write hR h2 (h1.sup b _ (A0 ..))⟩
set_option maxHeartbeats 8000000 in
theorem C0K (x:Tax) (st:St):S P 102 [R5 x] st fun v st'=>v=R5 (K8 x)∧st'=st:=by
 have hE:R5 (K8 x)=.agg [eB x.incl,eB x.byOrder,eI (B9 x.round 3),A6 4 R8 (K8 x).zones]:=rfl
 refine S.post (post:=fun v s=>∃ zv base,v=.agg [eB x.incl,eB x.byOrder,eI (B9 x.round 3),zv]∧A8 [zv] s [A6 4 R8 (K8 x).zones] base∧E5 st base) ?_ (fun v s ⟨zv,base,h1,h2,h3⟩=>⟨_,st,⟨hE.symm,rfl⟩,by
  rw [h1]
  exact (A8.agg (A8.cons (A8.keep [eB x.incl] _) (A8.cons (A8.keep [eB x.byOrder] _) (A8.cons (A8.keep [eI (B9 x.round 3)] _) h2)))).trans (h3.shift _)⟩)
 clear hE
 have hRd:=fun s=>A0x x.round 3 (by decide) (by decide) s
 obtain ⟨RD',hRD'⟩:∃ RD',RD'=B9 x.round 3:=⟨_,rfl⟩
 rw [←hRD'] at hRd ⊢
 have hend:=fun base s zv=>ZO.end (t:=x) (base:=base) (s:=s) (zv:=zv)
 have hnext:=fun k base s1 s zv rv sv g=>ZO.next (t:=x) (k:=k) (base:=base) (s1:=s1) (s:=s) (zv:=zv) (rv:=rv) (sv:=sv) (g:=g)
 generalize A6 4 R8 (K8 x).zones=ZS at hend ⊢
 refine F1 [1] Tryz.func102 ?_
 intro b2 hb2;conv=>whnf
 refine ⟨[8,9],[1,3,5,6],List.range 10,by kernel_rfl,?_⟩;conv=>whnf
 refine ⟨_,fun s _=>⟨rfl,rfl⟩,?_⟩;conv=>whnf
 refine ⟨_,fun s _=>⟨rfl,rfl⟩,?_⟩;conv=>whnf
 refine ⟨_,fun s _=>⟨rfl,rfl⟩,?_⟩;conv=>whnf
 refine ⟨_,fun s _=>I5 (hRd s),?_⟩;conv=>whnf
 intro b3 hb3
 have h23:b2≠b3:=fun e=>by subst e;rw [A0] at hb3;cases hb3
 conv=>whnf
 refine stU (A0 ..) rfl ?_
 rw [B6];conv=>whnf
 refine lp 3 [1,2,3,4] (fun k vs s=>∃ zv f,vs=[.fptr (R5 x) 0,.optr 4 b2 0 0,.optr 4 b3 0 0,eI k]∧f 0=.agg [eB x.incl,eB x.byOrder,eI RD',zv]∧ZO x k (upd (upd st b2 ⟨26,4,1,fun _=>H1 r26.zero⟩) b3 ⟨26,4,1,f⟩) zv s) ?_ ?_
 ·conv=>whnf
  exact ⟨.emp,_,rfl,by first | rfl | (rw [A4];rfl),fun _=>.junk,fun _=>.junk,ROut.start (show A2q _ _ 0 _ _ from E5.refl _) _ _ _,fun j hj=>absurd hj (by omega)⟩
 rintro k vs s hk ⟨zv,f,rfl,hf,sv,g,hR,hg⟩
 have hB:=A2e (fun j=>(D5 x.zones j).rates) sv k
 have hsup:=ROut.sup hB hR
 have at3:s b3=some ⟨26,4,1,f⟩:=hsup b3 _ (A0 ..)
 have at2:s b2=some ⟨26,4,1,fun _=>H1 r26.zero⟩:=hsup b2 _ (by rw [A9 h23];exact A0 ..)
 conv=>whnf
 refine B8 (fun h1=>?_) (fun h1=>?_)<;>rw [h1]<;>simp only [D5n,D5m] at h1
 case refine_2 =>
  obtain rfl:k=3:=by omega
  have hz:=ROut.head hR
  obtain ⟨y2,hy2⟩:∃ y2:L6,y2=⟨26,4,1,H7 (fun _=>H1 r26.zero) 0 (.agg [eB x.incl,eB x.byOrder,eI RD',zv])⟩:=⟨_,rfl⟩
  obtain ⟨base,k1,k2⟩:=hend _ _ _ ⟨sv,g,ROut.write hB hR (b:=b2) (y':=y2) (by rw [A9 h23];exact A0 ..),hg⟩
  subst hy2
  rcases hz with rfl | ⟨bz,rfl⟩
  all_goals
   conv=>whnf
   refine I1 at3 hf ?_
   refine X1 at2 rfl ?_
   refine I1 (A0 ..) (A4 ..) ?_
   exact ⟨_,base,rfl,k1,((((E5.refl st).upd hb2).upd hb3).over hb2).trans k2⟩
 have hk3:k<3:=by omega
 have hzn:=C4z k hk3
 have w1:IntKind.i64.wrap (1000 * (k:Int))=1000 * k:=A5 (by omega) (by omega)
 have w2:IntKind.i64.wrap (500 * (k:Int))=500 * k:=A5 (by omega) (by omega)
 have hname:∀ j,(D5 x.zones j).name=P7 j:=fun j=>by unfold D5;split<;>rfl
 conv=>whnf
 intro b5 hb5
 have h35:b3≠b5:=fun e=>by subst e;rw [at3] at hb5;cases hb5
 have h25:b2≠b5:=fun e=>by subst e;rw [at2] at hb5;cases hb5
 have hbase5:(upd (upd st b2 ⟨26,4,1,fun _=>H1 r26.zero⟩) b3 ⟨26,4,1,f⟩) b5=none:=hsup.none hb5
 conv=>whnf
 rw [hzn,w1,w2]
 refine stU (A0 ..) rfl ?_
 rw [B6]
 /- the tail: the zone as it then stands is appended -/
 have tail:∀ (s2 s1:St) (rv:AV) (f5:Nat→AV),Col 103 4 g (upd (upd (upd st b2 ⟨26,4,1,fun _=>H1 r26.zero⟩) b3 ⟨26,4,1,f⟩) b5 ⟨103,4,1,f5⟩) k zv s1 →
   ROut (A2q (fun j=>(D5 x.zones j).rates) sv k) 209 2 (A7j (D5 x.zones k).rates) (D5 x.zones k).rates.length s1 rv s2 →
   ∀ (X:AV) (gg:Nat→AV),Z5 4 s2 X=some (1,gg)→gg 0=B2j (D5 x.zones k) rv →
   ∀ (K:KK),(∀ zv' t2,t2 b3=some ⟨26,4,1,f⟩→(zv'=.emp∨∃ b,zv'=.own 4 b 0 (k+1))→(∀ f',ZO x (k+1) (upd (upd st b2 ⟨26,4,1,fun _=>H1 r26.zero⟩) b3 ⟨26,4,1,f'⟩) zv' (upd t2 b3 ⟨26,4,1,f'⟩))→K zv' t2) →
   A5p T 24 zv X s2 K:=by
  intro s2 s1 rv f5 hcol hrt X gg hs hgg K hK
  obtain ⟨sv',g',q1,q2,q3⟩:=hnext _ _ _ _ _ _ _ _ hcol hrt hg
  have hB':=A2e (fun j=>(D5 x.zones j).rates) sv' (k+1)
  refine ROut.app (q:=C0O) (f:=g') hB' rfl rfl rfl rfl hs (by rw [q3 k (D8e k),q2,hgg]) (by show (k+1) * 56≤140737488355328;omega) q1 (fun zv' t2 hR2=>?_)
  have hsup2:=ROut.sup hB' hR2
  have hd:∀ f',ROut (A2q (fun j=>(D5 x.zones j).rates) sv' (k+1)) 103 4 g' (k+1) (upd (upd st b2 ⟨26,4,1,fun _=>H1 r26.zero⟩) b3 ⟨26,4,1,f'⟩) zv' (upd t2 b3 ⟨26,4,1,f'⟩):=fun f'=>by
   have h1:=ROut.write hB' hR2 (b:=b3) (y':=⟨26,4,1,f'⟩) (by rw [A9 h35];exact A0 ..)
   rw [Q5 h35.symm,B6] at h1
   refine (T7 hB' _ _ _ _ _).drop h1 ?_
   rw [A9 h35.symm] at hbase5 ⊢;exact hbase5
  exact hK zv' t2 (hsup2 b3 _ (by rw [A9 h35];exact A0 ..)) (ROut.head hR2) fun f'=>⟨sv',g',hd f',q3⟩
 have hbeg:=fun y=>(T7 hB 103 4 g k zv).begin (y:=y) hR hb5
 conv=>whnf
 refine B8 (fun h2=>?_) (fun h2=>?_)<;>rw [h2]<;>simp only [D5n,D5m] at h2
 case refine_2 =>
  have hz:=B4k (l:=x.zones) (k:=k) (by omega)
  rw [hz] at tail
  rcases ROut.head hR with rfl | ⟨bz,rfl⟩
  all_goals
   conv=>whnf
   refine I1 (by rw [A9 h35];exact at3) hf ?_
   refine I1 (A0 ..) (A4 ..) ?_
   obtain ⟨s1,hcol,hrt⟩:=B6u (hbeg ⟨103,4,1,H7 (fun _=>H1 C0O.zero) 0 (.agg [eS (P7 k),.emp,eI (1000 * k),eI (500 * k)])⟩) 209 2 (A7j [])
   refine tail _ s1 .emp _ hcol hrt _ _ rfl rfl _ (fun zv' t2 q1 q2 q3=>?_)
   rcases q2 with rfl | ⟨bq,rfl⟩
   all_goals
    conv=>whnf
    refine X1 q1 hf ?_
    refine F8 ?_
    exact nx hk3 ⟨_,_,by rw [B3 (by omega)],(by rw [A4];rfl),q3 _⟩
 have hz:=B5Q (l:=x.zones) (k:=k) (by omega)
 have hrl:=fun c=>C5Z (l:=(x.zones.getD (k:Int).toNat default).rates) (c:=c)
 have hrn:(S3 (x.zones.getD (k:Int).toNat default).rates).length=min 3 (x.zones.getD (k:Int).toNat default).rates.length:=by unfold S3;rw [D5p,D5O]
 rw [hz] at tail
 have hM1:=fun s=>O9 (x.zones.getD (k:Int).toNat default).rest 3000 (by decide) (by decide) s
 have hM2:=fun s=>O9 (x.zones.getD (k:Int).toNat default).ship 3000 (by decide) (by decide) s
 have tail':_:=tail
 rw [show x.zones.getD k default=x.zones.getD (k:Int).toNat default from rfl] at tail'
 clear tail
 generalize S3 (x.zones.getD (k:Int).toNat default).rates=RL at tail' hrl hrn
 generalize B9 (x.zones.getD (k:Int).toNat default).rest 3000=M1 at tail' hM1
 generalize B9 (x.zones.getD (k:Int).toNat default).ship 3000=M2 at tail' hM2
 conv=>whnf
 refine ⟨[15,17],[],List.range 18,by kernel_rfl,?_⟩;conv=>whnf
 refine E4 ?_
 refine cqW (hM1 _) ?_
 refine E4 ?_
 refine cqW (hM2 _) ?_
 refine stU (A0 ..) (A4 ..) ?_
 rw [B6];conv=>whnf
 refine stU (A0 ..) (A4 ..) ?_
 rw [B6];conv=>whnf
 refine lp (min 3 (x.zones.getD (k:Int).toNat default).rates.length) [1,2,3,4,5,6] (fun c vs s'=>∃ rv f5,vs=[.fptr (R5 x) 0,.optr 4 b2 0 0,.optr 4 b3 0 0,eI k,.optr 4 b5 0 0,eI c]∧f5 0=.agg [eS (P7 k),rv,eI M1,eI M2] ∧
   ∃ s1,Col 103 4 g (upd (upd (upd st b2 ⟨26,4,1,fun _=>H1 r26.zero⟩) b3 ⟨26,4,1,f⟩) b5 ⟨103,4,1,f5⟩) k zv s1∧ROut (A2q (fun j=>(D5 x.zones j).rates) sv k) 209 2 (A7j RL) c s1 rv s') ?_ ?_
 ·conv=>whnf
  exact ⟨.emp,_,rfl,by first | rfl | (rw [A4];rfl),B6u (hbeg _) _ _ _⟩
 rintro c vs s' hc ⟨rv,f5,rfl,hf5,s1,hcol,hrt⟩
 have hsup':=ROut.sup hB hrt
 have at5:s' b5=some ⟨103,4,1,f5⟩:=hsup' b5 _ (hcol.sup b5 _ (A0 ..))
 have at3':s' b3=some ⟨26,4,1,f⟩:=hsup' b3 _ (hcol.sup b3 _ (by rw [A9 h35];exact A0 ..))
 conv=>whnf
 refine B8 (fun h3=>?_) (fun h3=>?_)<;>rw [h3]<;>simp only [D5n,D5m] at h3
 case' refine_1 =>
  conv=>whnf
  refine E4 ?_
  refine B8 (fun h4=>?_) (fun h4=>?_)<;>rw [h4]<;>simp only [D5n,D5m] at h4
 case refine_1.refine_1 =>
  have hc':c<min 3 (x.zones.getD (k:Int).toNat default).rates.length:=by omega
  have hra:=hrl c hc'
  rcases ROut.head hrt with rfl | ⟨br,rfl⟩
  all_goals
   conv=>whnf
   refine ⟨[17,19],[14],List.range 20,by kernel_rfl,?_⟩;conv=>whnf
   refine I1 at5 hf5 ?_
   refine cqW (A4H _ _) ?_
   refine E4 ?_
   refine E4 ?_
   refine ⟨_,fun s _=>I5 (O9 _ 3000 (by decide) (by decide) s),?_⟩;conv=>whnf
   refine ⟨_,⟨rfl,rfl⟩,?_⟩;conv=>whnf
   refine ROut.app (q:=C5S) hB rfl rfl rfl rfl rfl (f:=A7j RL) (by show _=A0N _;rw [hra];rfl) (by show (c+1) * 24≤140737488355328;omega) hrt (fun rv' t2 hrt2=>?_)
   have at5':t2 b5=some ⟨103,4,1,f5⟩:=ROut.sup hB hrt2 b5 _ (hcol.sup b5 _ (A0 ..))
   rcases ROut.head hrt2 with rfl | ⟨br',rfl⟩
   all_goals
    conv=>whnf
    refine X1 at5' hf5 ?_
    refine F8 ?_
    exact nx hc' ⟨_,_,by rw [B3 (by omega)],(by rw [A4];rfl),C6m hB hcol hrt2 _⟩
 all_goals
  have hce:RL.length=c:=by omega
  rw [←hce] at hrt
  rcases ROut.head hR with rfl | ⟨bz,rfl⟩
  all_goals
   rcases ROut.head hrt with rfl | ⟨br,rfl⟩
   all_goals
    conv=>whnf
    refine I1 at3' hf ?_
    refine I1 at5 hf5 ?_
    refine tail' _ s1 _ _ hcol hrt _ _ rfl rfl _ (fun zv' t2 q1 q2 q3=>?_)
    rcases q2 with rfl | ⟨bq,rfl⟩
    all_goals
     conv=>whnf
     refine X1 q1 hf ?_
     refine F8 ?_
     exact nx hk3 ⟨_,_,by rw [B3 (by omega)],(by rw [A4];rfl),q3 _⟩
set_option maxHeartbeats 8000000 in
theorem B5P (r:G6) (st:St):S P 44 [G9 r] st fun v st'=>v=G9 (J2 r)∧st'=st:=by
 have hE:G9 (J2 r)=.agg [A6 4 E3 (F9 r.items),A6 15 B7 (N1 r.promos),eB (K8 r.tax).incl,eB (K8 r.tax).byOrder,eI (K8 r.tax).round,A6 4 R8 (K8 r.tax).zones,eI (B9 r.ship.fee 900),eI (B9 r.ship.free 3 * 4000),
  eI (20+B9 r.policy.window 60),eI (B9 r.policy.grace 40),eI (1+B9 r.policy.mode 3),eI (B9 r.policy.restock 3 * B9 r.policy.restock 2500),B0 (N9 r.policy.order),B0 (N9 r.policy.credit)]:=rfl
 rw [hE]
 clear hE
 have h1:=D0 r.ship.fee (n:=900) (by decide)
 have h2:=D0 r.ship.free (n:=3) (by decide)
 have h3:=D0 r.policy.window (n:=60) (by decide)
 have h5:=D0 r.policy.mode (n:=3) (by decide)
 have h6:=D0 r.policy.restock (n:=3) (by decide)
 have h7:=D0 r.policy.restock (n:=2500) (by decide)
 have h8:B9 r.policy.restock 3 * B9 r.policy.restock 2500≤2 * 2499:=D7J (by omega) (by omega) (by omega) (by omega)
 have h9:0≤B9 r.policy.restock 3 * B9 r.policy.restock 2500:=D6K h6.1 h7.1
 have w1:IntKind.i64.wrap (B9 r.ship.free 3 * 4000)=B9 r.ship.free 3 * 4000:=A5 (by omega) (by omega)
 have w2:IntKind.i64.wrap (20+B9 r.policy.window 60)=20+B9 r.policy.window 60:=A5 (by omega) (by omega)
 have w3:IntKind.i64.wrap (1+B9 r.policy.mode 3)=1+B9 r.policy.mode 3:=A5 (by omega) (by omega)
 have w4:IntKind.i64.wrap (B9 r.policy.restock 3 * B9 r.policy.restock 2500)=B9 r.policy.restock 3 * B9 r.policy.restock 2500:=A5 (by omega) (by omega)
 have m1:=fun s=>O9 r.ship.fee 900 (by decide) (by decide) s
 have m2:=fun s=>O9 r.ship.free 3 (by decide) (by decide) s
 have m3:=fun s=>A0x r.policy.window 60 (by decide) (by decide) s
 have m4:=fun s=>A0x r.policy.grace 40 (by decide) (by decide) s
 have m5:=fun s=>A0x r.policy.mode 3 (by decide) (by decide) s
 have m6:=fun s=>O9 r.policy.restock 3 (by decide) (by decide) s
 have m7:=fun s=>O9 r.policy.restock 2500 (by decide) (by decide) s
 have c1:=fun s=>B5M r.items s
 have c2:=fun s=>B4i r.promos s
 have c3:∀ s,S P 102 [R5 r.tax] s fun v st'=>v=.agg [eB (K8 r.tax).incl,eB (K8 r.tax).byOrder,eI (K8 r.tax).round,A6 4 R8 (K8 r.tax).zones]∧st'=s:=fun s=>C0K r.tax s
 have c4:=fun s=>A9D r.policy.order s
 have c5:=fun s=>A9D r.policy.credit s
 clear h1 h2 h3 h5 h6 h7 h8 h9
 generalize B9 r.ship.fee 900=M1 at *
 generalize B9 r.ship.free 3=M2 at *
 generalize B9 r.policy.window 60=M3 at *
 generalize B9 r.policy.grace 40=M4 at *
 generalize B9 r.policy.mode 3=M5 at *
 generalize B9 r.policy.restock 3=M6 at *
 generalize B9 r.policy.restock 2500=M7 at *
 generalize F9 r.items=V1 at *
 generalize N1 r.promos=V2 at *
 generalize K8 r.tax=V3 at *
 generalize N9 r.policy.order=V4 at *
 generalize N9 r.policy.credit=V5 at *
 refine A2c ?_
 refine F1 [1,3] Tryz.func44 ?_
 intro b2 hb;conv=>whnf
 refine ⟨[45],[],List.range 46,by kernel_rfl,?_⟩;conv=>whnf
 refine cqW (c1 _) ?_
 refine cqW (c2 _) ?_
 refine cqW (c3 _) ?_
 refine cqW (m1 _) ?_
 refine cqW (m2 _) ?_
 rw [w1]
 refine cqW (m3 _) ?_
 rw [w2]
 refine cqW (m4 _) ?_
 refine cqW (m5 _) ?_
 rw [w3]
 refine cqW (m6 _) ?_
 refine cqW (m7 _) ?_
 rw [w4]
 refine cqW (c4 _) ?_
 refine cqW (c5 _) ?_
 refine X1 (A0 ..) rfl ?_
 refine I1 (A0 ..) (A4 ..) ?_
 exact ⟨rfl,((E5.refl st).upd hb).over hb⟩
end Go.Proofs.YtaapofnkmpiknaaGreat
namespace Go.Proofs.YtaapofnkmpiknaaGreat
open Go Go.Ab
def C2B (rates:List Int) (i:Nat):QE:=(-(gI rates i),(i:Int))
def B8U (rates:List Int):List QE:=(List.range rates.length).map (C2B rates)
def A9I (rates:List Int):List QE:=(B8U rates).mergeSort fun a b=>!G3 b a
theorem A8u (rates:List Int):(A9I rates).Pairwise fun a b=>G3 b a=false:=by
 have:=D7E (le:=fun a b:QE=>!G3 b a) (fun a b c h1 h2=>by simp only [D5F] at *;exact A0u h2 h1) (fun a b=>by
  cases h:G3 b a with
  | false=>rfl
  | true=>rw [A0d h];rfl) (B8U rates)
 exact this.imp (fun h=>by simpa using h)
theorem A4Z (rates:List Int):(A9I rates).Perm (B8U rates):=D7Z ..
def K3 (rates:List Int) (k:Int):List Nat:=(List.range rates.length).filter fun i=>-(gI rates i)==k
theorem C1l (rates:List Int) (k:Int):(A9I rates).filter (fun e=>e.1==k)=(K3 rates k).map fun i:Nat=>(k,(i:Int)):=by
 have h1:((A9I rates).filter (fun e=>e.1==k)).Perm ((K3 rates k).map fun i:Nat=>(k,(i:Int))):=by
  refine ((A4Z rates).filter _).trans ?_
  unfold B8U K3
  rw [List.filter_map]
  refine List.Perm.of_eq ?_
  refine D6D fun i hi=>?_
  have:=(D6o.1 hi).2
  show (-(gI rates i),(i:Int))=(k,(i:Int))
  have h : -(gI rates i)=k:=by simpa [C2B] using this
  rw [h]
 refine h1.eq_of_pairwise (le:=fun a b=>G3 b a=false) (fun a b _ _ h3 h4=>(A4k h4 h3)) (D8i D7m (A8u rates)) ?_
 refine List.pairwise_map.2 ?_
 unfold K3
 refine (D8i D7m List.pairwise_lt_range).imp fun {a b} hab=>?_
 rw [R3]
 show ¬(k>k∨k=k∧(b:Int)<(a:Int))
 omega
theorem C1m {E:List QE} (hs:E.Pairwise fun a b=>G3 b a=false) {k:Int} (hk:∀ e∈E,e.1≤k):E=E.filter (fun e=>e.1==k)++E.filter (fun e=>!(e.1==k)):=by
 induction E with
 | nil=>rfl
 | cons e E ih =>
  have hs':=D6X.1 hs
  by_cases h:e.1=k
  ·rw [D6s (by simpa using h),D6x (by simpa using h),D7G,←ih hs'.2 fun x hx=>hk x (D5M _ hx)]
  ·have hlt:∀ x∈E,x.1<k:=fun x hx=>by
    have h1:=(R3 _ _).1 (hs'.1 x hx)
    have h2:=hk e (D5N ..)
    omega
   have hn:E.filter (fun e=>e.1==k)=[]:=List.filter_eq_nil_iff.2 fun x hx=>by have:=hlt x hx;simp;omega
   have ha:E.filter (fun e=>!(e.1==k))=E:=List.filter_eq_self.2 fun x hx=>by have:=hlt x hx;simp;omega
   rw [D6x (by simpa using h),D6s (by simpa using h),hn,ha];rfl
def A1u (rates:List Int) (D:Int→Bool):List QE:=(A9I rates).filter fun e=>!D e.1
theorem A8a (rates:List Int) (D:Int→Bool):(A1u rates D).Pairwise fun a b=>G3 b a=false:=D8i D7m (A8u rates)
theorem B7r {rates:List Int} {D:Int→Bool} {x:QE} {E:List QE} (h:A1u rates D=x::E) :
  D x.1=false∧x::E=((K3 rates x.1).map fun i:Nat=>(x.1,(i:Int)))++A1u rates (fun y=>D y||y==x.1):=by
 have hs:=A8a rates D
 have hx:x∈A1u rates D:=by rw [h];exact D5N ..
 have hD:D x.1=false:=by
  have:=(D6o.1 hx).2
  simpa using this
 refine ⟨hD,?_⟩
 have hk:∀ e∈A1u rates D,e.1≤x.1:=fun e he=>by
  rw [h] at he hs
  rcases D6U.1 he with rfl | he
  ·exact D5W _
  ·have:=(R3 _ _).1 ((D6X.1 hs).1 e he);omega
 have h2:=C1m hs hk
 rw [←h,h2]
 congr 1
 ·rw [←C1l]
  unfold A1u
  rw [List.filter_filter]
  refine List.filter_congr fun e he=>?_
  by_cases e1:e.1=x.1
  ·rw [e1,hD];simp
  ·simp [e1]
 ·unfold A1u
  rw [List.filter_filter]
  refine List.filter_congr fun e he=>?_
  show (!(e.1==x.1)&&!D e.1)=!(D e.1||e.1==x.1)
  rw [Bool.not_or,Bool.and_comm]
theorem B3U {rates:List Int} {D:Int→Bool} {k:Int}:∀ y∈A1u rates (fun z=>D z||z==k),(y.1==k)=false:=fun y hy=>by
 have:=(D6o.1 hy).2
 simp only [D5F,D6z] at this
 exact this.2
theorem B5t (rates:List Int):A1u rates (fun _=>false)=A9I rates:=List.filter_eq_self.2 fun x _=>rfl
theorem A0q {rates:List Int} {k:Int} {i:Nat} (hi:i∈K3 rates k) : -(gI rates i)=k∧i<rates.length∧A8c rates i=K3 rates k:=by
 have h1:=D6o.1 hi
 have h2 : -(gI rates i)=k:=by simpa using h1.2
 refine ⟨h2,D5B.1 h1.1,?_⟩
 unfold A8c K3
 refine List.filter_congr fun j _=>?_
 rw [D8r,D6k,D6k];omega
theorem B2U (rates:List Int) (k:Int):(K3 rates k).Nodup:=D8i D7m List.nodup_range
theorem C5n {rates:List Int} {k:Int} {j:Nat} (hj:j<(K3 rates k).length):A0s rates ((K3 rates k)[j])=j:=by
 have hm:=A0q (D6J hj)
 have h1:=A8d hm.2.1
 rw [hm.2.2] at h1
 have h2:=D5D.1 h1
 obtain ⟨h3,h4⟩:=h2
 have:=(List.nodup_iff_pairwise_ne.1 (B2U rates k))
 rcases Nat.lt_trichotomy (A0s rates ((K3 rates k)[j])) j with e | e | e
 ·exact absurd h4 (D6V.1 this _ _ h3 hj e)
 ·exact e
 ·exact absurd h4.symm (D6V.1 this _ _ hj h3 e)
def A2w (t:Tax) (rates nets:List Int) (k:Int):List Int:=D1 (N5 t (A2 ((K3 rates k).map (gI nets))) (-k)) ((K3 rates k).map (gI nets))
theorem C3k {t:Tax} {rates nets:List Int} {k:Int} {j:Nat} (hj:j<(K3 rates k).length):gI (A2w t rates nets k) j=A1z t rates nets ((K3 rates k)[j]):=by
 have hm:=A0q (D6J hj)
 unfold A2w A1z I7
 rw [C5n hj,hm.2.2,show gI rates ((K3 rates k)[j]) = -k by omega]
end Go.Proofs.YtaapofnkmpiknaaGreat
namespace Go.Proofs.YtaapofnkmpiknaaGreat
open Go Go.Ab
attribute [local irreducible] upd del
theorem C3u (st0:St) (q:Nat) (f:Bool) (st:St) (h:QSt st0 q f [] st):S P 237 [.optr 1 q 0 0] st fun v st'=>v=.tuple [eI 0,eI 0,.bool false]∧st'=st:=by
 obtain ⟨h1,h2,sv,⟨fq,hqs,hq0⟩,h3⟩:=h
 refine F1 [] Tryz.func237 ?_
 rcases h3 with ⟨_,rfl⟩ | ⟨b,l,n,a1,a2,rfl,a4,a5,a6,a7,a8,a9⟩
 ·refine I1 hqs hq0 ?_
  exact ⟨rfl,rfl⟩
 ·have e:n=0:=by
   have:=a8.length_eq
   rw [D5v,D6E] at this;omega
  subst e
  refine I1 hqs hq0 ?_
  exact ⟨rfl,rfl⟩
theorem B4l (st0:St) (q:Nat) (f:Bool) (x:QE) (es:List QE) (st:St) (h:QSt st0 q f (x::es) st) (htop:∀ y∈es,G3 y x=false):S P 237 [.optr 1 q 0 0] st fun v st'=>v=.tuple [eI x.1,eI x.2,.bool true]∧st'=st:=by
 obtain ⟨h1,h2,sv,hq,h3⟩:=h
 rcases h3 with ⟨h,_⟩ | ⟨b,l,n,a1,a2,rfl,a4,a5,a6,a7,a8,a9⟩
 ·cases h
 have hn:n=es.length+1:=by
  have:=a8.length_eq
  rw [D5v,D5Y] at this;omega
 subst hn
 have hx:at_ l 0=x:=by
  have m0:at_ l 0∈x::es:=by
   refine a8.subset ?_
   have:(l.take (es.length+1)).getD 0 default=at_ l 0:=by
    unfold at_;rw [D5l,D5l,D5z (by omega)]
   rw [←this];exact A7 (by rw [D5v];omega)
  have hmem:x∈l.take (es.length+1):=a8.symm.subset (D5N ..)
  obtain ⟨k,hk,he⟩:=D3 hmem
  rw [D5v] at hk
  have hxk:x=at_ l k:=by
   rw [he];unfold at_;rw [D5l,D5l,D5z (by omega)]
  have t1:G3 x (at_ l 0)=false:=by rw [hxk];exact a6.top k (by omega)
  rcases D6U.1 m0 with e | e
  ·exact e
  ·exact A4k (htop _ e) t1
 obtain ⟨fq,hqs,hq0⟩:=hq
 obtain ⟨fe,hes,hef⟩:=a7
 have h0:fe 0=A5F x:=by rw [hef 0 (by omega),hx]
 refine F1 [] Tryz.func237 ?_
 refine I1 hqs hq0 ?_
 rw [show (((es.length+1:Nat):Int)==0)=false by rw [D5X];omega];conv=>whnf
 refine ⟨[],[],List.range 17,by kernel_rfl,?_⟩;conv=>whnf
 refine I1 hqs hq0 ?_
 refine E4 ?_
 refine ldV hes rfl (by omega) (v:=A5F x) h0 ?_;conv=>whnf
 refine I1 hqs hq0 ?_
 refine E4 ?_
 refine ldV hes rfl (by omega) (v:=A5F x) h0 ?_;conv=>whnf
 exact ⟨rfl,rfl⟩
def IsL (L:List Int) (y:L6):Prop:=∃ f,y=⟨2,1,L.length,f⟩∧∀ i,i<L.length→f i=eI (gI L i)
def OQ (bo q:Nat) (L:List Int) (fl:Bool) (es:List QE):St→St→Prop:=X4 bo (IsL L) (fun s t=>QSt s q fl es t)
theorem B0D (bo q:Nat) (L:List Int) (fl:Bool) (es:List QE):K9 (OQ bo q L fl es):=A0n (B8J q fl es)
abbrev gN (G:List Nat) (i:Nat):Int:=((G.getD i 0:Nat):Int)
def QJ (G:List Nat) (k:Int) (Rest:List QE) (j:Nat):List QE:=((G.drop j).map fun i:Nat=>(k,(i:Int)))++Rest
theorem C4M {G:List Nat} {k:Int} {Rest:List QE} {j:Nat} (hj:j<G.length):QJ G k Rest j=(k,gN G j)::QJ G k Rest (j+1):=by
 unfold QJ gN
 rw [D7o hj,D5l,D5s hj];rfl
theorem C1P {G:List Nat} {k:Int} {Rest:List QE}:QJ G k Rest G.length=Rest:=by
 unfold QJ;rw [List.drop_length];rfl
def C3o (es:List QE):AV:=match es with
 | []=>.tuple [eI 0,eI 0,.bool false]
 | y::_=>.tuple [eI y.1,eI y.2,.bool true]
theorem C3v (st0:St) (q:Nat) (f:Bool) (es:List QE) (st:St) (h:QSt st0 q f es st) (hs:es.Pairwise fun a b=>G3 b a=false):S P 237 [.optr 1 q 0 0] st fun v st'=>v=C3o es∧st'=st:=by
 cases es with
 | nil=>exact C3u st0 q f st h
 | cons y es=>exact B4l st0 q f y es st h (D6X.1 hs).1
def B2R (t:Tax) (rates nets:List Int) (D:Int→Bool) (L:List Int):Prop:=L.length=nets.length∧∀ i,i<nets.length→gI L i=if D (-(gI rates i))=true then A1z t rates nets i else 0
theorem C2G {a b:List Int} (hl:a.length=b.length) (h:∀ i,i<a.length→gI a i=gI b i):a=b:=D7S hl fun i h1 h2=>by
 have:=h i h1
 unfold gI at this
 rw [D5l,D5s h1,D5l,D5s h2] at this
 exact this
theorem C2z {t:Tax} {rates nets:List Int} {D:Int→Bool} {L:List Int} (h:B2R t rates nets D L) (hr:rates.length=nets.length) (hE:A1u rates D=[]):L=G7 t rates nets:=by
 have hl:(G7 t rates nets).length=nets.length:=by unfold G7;rw [D5p,D5O]
 refine C2G (by rw [h.1,hl]) fun i h1=>?_
 have hi:i<nets.length:=by rw [←h.1];exact h1
 have h3:=h.2 i hi
 have hD:D (-(gI rates i))=true:=by
  have hm:C2B rates i∈A9I rates:=(A4Z rates).mem_iff.2 (D5G.2 ⟨i,D5B.2 (by omega),rfl⟩)
  have:=List.filter_eq_nil_iff.1 hE _ hm
  simpa [C2B] using this
 rw [if_pos hD] at h3
 rw [h3]
 unfold G7 gI
 rw [D5l,D6j,D6P hi];rfl
def A4l (L:List Int) (G:List Nat) (X:List Int):Nat→List Int
 | 0=>L
 | j+1=>(A4l L G X j).set (G.getD j 0) (gI X j)
theorem A8m (L:List Int) (G:List Nat) (X:List Int) (j:Nat):(A4l L G X j).length=L.length:=by
 induction j with
 | zero=>rfl
 | succ j ih=>show ((A4l L G X j).set _ _).length=_;rw [D6H,ih]
theorem B9o {L:List Int} {G:List Nat} {X:List Int} (hn:G.Nodup) (hG:∀ i∈G,i<L.length):∀ j,j≤G.length→∀ i,i<L.length→gI (A4l L G X j) i=if i∈G.take j then gI X (G.idxOf i) else gI L i
 | 0,_,i,hi=>by rw [D7d,if_neg D6R];rfl
 | j+1,hj,i,hi=>by
  have ih:=B9o (X:=X) hn hG j (by omega) i hi
  have hgj:G.getD j 0=G[j]:=by rw [D5l,D5s (by omega)];rfl
  show gI ((A4l L G X j).set (G.getD j 0) (gI X j)) i=_
  rw [hgj,D7q (show j<G.length by omega)]
  by_cases e:G[j]=i
  ·have hidx:G.idxOf i=j:=by rw [←e];exact hn.idxOf_getElem j (by omega)
   rw [if_pos (List.mem_append_right _ (D5Q.2 e.symm)),hidx]
   unfold gI
   rw [e,D5l,List.getElem?_set_self (by rw [A8m];exact hi)];rfl
  ·have hs:gI ((A4l L G X j).set G[j] (gI X j)) i=gI (A4l L G X j) i:=by
    unfold gI;rw [D5l,D7e e,←D5l]
   rw [hs,ih]
   by_cases hm:i∈G.take j
   ·rw [if_pos hm,if_pos (List.mem_append_left _ hm)]
   ·rw [if_neg hm,if_neg]
    intro h
    rcases D6B.1 h with h | h
    ·exact hm h
    ·exact e (D5Q.1 h).symm
theorem B2S {t:Tax} {rates nets:List Int} {D:Int→Bool} {L:List Int} {k:Int} (h:B2R t rates nets D L) (hr:rates.length=nets.length):B2R t rates nets (fun y=>D y||y==k) (A4l L (K3 rates k) (A2w t rates nets k) (K3 rates k).length):=by
 have hG:∀ i∈K3 rates k,i<L.length:=fun i hi=>by rw [h.1,←hr];exact (A0q hi).2.1
 refine ⟨by rw [A8m];exact h.1,fun i hi=>?_⟩
 rw [B9o (B2U rates k) hG _ (D5u _) i (by rw [h.1];exact hi),D5w]
 by_cases hm:i∈K3 rates k
 ·obtain ⟨h1,h2,h3⟩:=A0q hm
  have hlt:=List.idxOf_lt_length_iff.2 hm
  rw [if_pos hm,C3k hlt,List.getElem_idxOf hlt,if_pos (by rw [h1];simp)]
 ·have hne:¬ -(gI rates i)=k:=fun e=>hm (D6o.2 ⟨D5B.2 (by omega),by rw [e];exact D7v k⟩)
  rw [if_neg hm,h.2 i hi]
  have:(-(gI rates i)==k)=false:=D5X.2 hne
  simp only [this,D6d]
theorem IsL.set {L:List Int} {f:Nat→AV} {i:Nat} {v:Int} (h:∀ k,k<L.length→f k=eI (gI L k)):IsL (L.set i v) ⟨2,1,L.length,H7 f i (eI v)⟩:=by
 refine ⟨_,by rw [D6H],fun k hk=>?_⟩
 rw [D6H] at hk
 by_cases e:k=i
 ·subst e
  rw [A4];unfold gI
  rw [D5l,List.getElem?_set_self hk];rfl
 ·rw [H3 e,h k hk];unfold gI
  rw [D5l,D5l,D7e (fun e2=>e e2.symm)]
theorem C0r {rates:List Int} {D:Int→Bool} {x:QE} {E:List QE} (h:A1u rates D=x::E):∃ i,i<rates.length∧i∈K3 rates x.1∧gI rates i = -x.1:=by
 have hx:x∈A9I rates:=(D6o.1 (show x∈A1u rates D by rw [h];exact D5N ..)).1
 obtain ⟨i,hi,rfl⟩:=D5G.1 ((A4Z rates).mem_iff.1 hx)
 have hi:=D5B.1 hi
 exact ⟨i,hi,D6o.2 ⟨D5B.2 hi,D7v _⟩,by show gI rates i = - -(gI rates i);omega⟩
theorem C6J {rates:List Int} {k:Int} {j:Nat} (hj:j<(K3 rates k).length):(gN (K3 rates k) j).toNat<rates.length∧0≤gN (K3 rates k) j:=by
 have hm:(K3 rates k).getD j 0∈K3 rates k:=by rw [D5l,D5s hj];exact D6J hj
 have:=(A0q hm).2.1
 exact ⟨by show ((((K3 rates k).getD j 0:Nat):Int)).toNat<_;omega,by show 0≤(((K3 rates k).getD j 0:Nat):Int);omega⟩
end Go.Proofs.YtaapofnkmpiknaaGreat
