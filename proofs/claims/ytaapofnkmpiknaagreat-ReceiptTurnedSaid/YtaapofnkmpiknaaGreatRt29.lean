/- Part 29 of the proof: contracts of the functions that the law reaches -/
import Derived.Test.YtaapofnkmpiknaaGreatRt28
set_option maxRecDepth 100000
set_option linter.unusedVariables false
set_option linter.unusedSimpArgs false
namespace Go.Proofs.YtaapofnkmpiknaaGreat
open Go Go.Ab
attribute [local irreducible] upd del
theorem C0N {t k:Int} (ht:0≤t∧t≤10000000000000) (hk:0≤k∧k≤100000):0≤t * k∧t * k≤1000000000000000000:=by
 refine ⟨D7a ht.1 hk.1,?_⟩
 have h1:t * k≤10000000000000 * k:=D7z ht.2 hk.1
 omega
theorem C4K (t n k:Int) (ht:0≤t∧t≤10000000000000) (hn:1≤n∧n≤100000) (hk:0≤k∧k≤n) (st:St):S P 65 [eI t,eI n,eI k] st fun v st'=>v=.tuple [eI (V8 t n k),eI 0]∧st'=st:=by
 have n1:=A5a t st
 rw [show I9 t=true from F4.2 ⟨by omega,by omega⟩] at n1
 have g1:decide (n<1)=false:=D5H (by omega)
 have g2:decide (n>100000)=false:=D5H (by omega)
 have g3:decide (k<0)=false:=D5H (by omega)
 have g4:decide (k>n)=false:=D5H (by omega)
 have w1:IntKind.u64.wrap t=t:=B6 (by omega) (by omega)
 have w2:IntKind.u64.wrap k=k:=B6 (by omega) (by omega)
 have w3:IntKind.u64.wrap n=n:=B6 (by omega) (by omega)
 have hm:=C0N ht (k:=k) ⟨hk.1,by omega⟩
 have w4:IntKind.u64.wrap (t * k)=t * k:=B6 hm.1 (by omega)
 have hu:=A3R ht.1 hn.1 hk.1 hk.2
 have w5:IntKind.u64.wrap ((t * k).tdiv n)=V8 t n k:=by rw [D6V hm.1];exact B6 (x:=V8 t n k) hu.1 (by omega)
 have w6:IntKind.i64.wrap (V8 t n k)=V8 t n k:=A5 (by omega) (by omega)
 refine SyW [] Tryz.func65 ?_
 repeat' ((conv=>whnf);first | refine B3 n1 ?_ | rw [g1] | rw [g2] | rw [g3] | rw [g4])
 conv=>whnf
 rw [w3,D5H (show ¬ n=0 by omega)];conv=>whnf
 rw [w1,w2,w4,w5,w6]
 exact ⟨rfl,rfl⟩
theorem B8K (t n k:Int) (ht:0≤t∧t≤10000000000000) (hn:1≤n∧n≤100000) (hk:0≤k∧k≤n):W5 t k n 0=(V8 t n k,0):=by
 have h1:(Q3 t&&Q3 k&&Q3 n&&n != 0&&decide ((0:Int)≤0)&&decide ((0:Int)<3))=true:=by
  simp only [D5G,Z1,D8e,D5C]
  exact ⟨⟨⟨⟨⟨⟨by omega,by omega⟩,by omega,by omega⟩,by omega,by omega⟩,by omega⟩,by omega⟩,by omega⟩
 have hu:=A3R ht.1 hn.1 hk.1 hk.2
 unfold W5
 rw [h1,if_neg (by simp),if_neg (show ¬ t * k / n>100000000000000 by show ¬ V8 t n k>_;omega)]
 have e:S8 (t * k / n) (t * k % n) n 0=V8 t n k:=rfl
 rw [e,if_neg (by omega)]
theorem B9G (t n k:Int) (ht:0≤t∧t≤10000000000000) (hn:1≤n∧n≤100000) (hk:0≤k∧k≤n) (st:St):S P 73 [eI t,eI n,eI k] st fun v st'=>v=.tuple [eI (V8 t n k),eI 0]∧st'=st:=by
 have n1:=A1N t st
 rw [show Q3 t=true from (Z1 t).2 ⟨by omega,by omega⟩] at n1
 have n2:=A8G t k n 0 st
 rw [B8K t n k ht hn hk] at n2
 have g1:decide (n<1)=false:=D5H (by omega)
 have g2:decide (n>100000)=false:=D5H (by omega)
 have g3:decide (k<0)=false:=D5H (by omega)
 have g4:decide (k>n)=false:=D5H (by omega)
 generalize V8 t n k=Y at *
 refine SyW [] Tryz.func73 ?_
 repeat' ((conv=>whnf);first | refine B3 n1 ?_ | refine B3 n2 ?_ | rw [g1] | rw [g2] | rw [g3] | rw [g4])
 exact ⟨rfl,rfl⟩
def A7x (x:A2m):E7:=⟨x.sku,x.left,x.price⟩
theorem C4c (o:R7) (hl:o.lines.length≤100000) (st:St):S P 51 [T8 o] st fun v st'=>v=A8 3 H7 (C0I o)∧st'=st:=by
 refine A0M (ty:=137) ?_
 refine F1 [1,5] Tryz.func51 ?_
 refine lp o.lines.length [3,7,8,9] (fun i vs s=>∃ sv,vs=[sv,A8 6 O1 o.lines,eI o.lines.length,eI i]∧E1 137 3 H7 ((o.lines.take i).map A7x) st sv s) ?_ ?_
 ·conv=>whnf
  exact ⟨.emp,rfl,E1.start _ _ _ _⟩
 rintro i vs s hi ⟨sv,rfl,hc⟩
 conv=>whnf
 cases h:decide ((i:Int)<(o.lines.length:Int))
 ·obtain rfl:=C2 h hi
  rw [D5L] at hc;conv=>whnf
  exact hc
 have hi':=D6 h
 have hln:((o.lines.take i).map A7x).length=i:=by rw [D5F,D5K];omega
 have htk:(o.lines.take (i+1)).map A7x=(o.lines.take i).map A7x++[A7x (o.lines.getD (i:Int).toNat default)]:=A1Q hi' A7x
 conv=>whnf
 refine E4 ?_
 refine E1.app (q:=C3Q) (y:=A7x (o.lines.getD (i:Int).toNat default)) rfl rfl rfl rfl rfl rfl (by rw [hln];show (i+1) * 32≤140737488355328;omega) hc (fun sv' s' hc'=>?_);conv=>whnf
 refine F6 ?_
 exact nx hi' ⟨sv',by rw [B4 (by omega)],by rw [htk];exact hc'⟩
def A2A (o:R7) (i:Nat):A4e:=⟨shG (o.lines.take i),shT (o.lines.take i),if Q5 (o.lines.take i)=true then o.ship else 0,if Q5 (o.lines.take i)=true then o.shipTax else 0,0⟩
theorem A8a {l:List A2m} {i:Nat} (hi:i<l.length):Q5 (l.take (i+1))=(Q5 (l.take i)||decide ((l.getD i default).left>0)):=by
 unfold Q5;rw [K6 hi,List.any_append];simp
theorem B3K {l:List A2m} (hl:l.length≤1000) (hk:∀ x∈l,Z7 x=true) (i:Nat):(0≤shG (l.take i)∧shG (l.take i)≤10000000000000000)∧(0≤shT (l.take i)∧shT (l.take i)≤10000000000000000):=by
 have hln:(l.take i).length≤1000:=by rw [D5K];omega
 have a:=B1y (f:=fun x:A2m=>V8 x.goods x.sold x.left) (M:=10000000000000) (by decide) (l.take i) (fun x hx=>by
  obtain ⟨_,_,h1,h2,h3,_⟩:=A8l (hk x (D6E _ _ hx))
  have:=A3R h3.1 h1.1 h2.1 h2.2
  exact ⟨this.1,by omega⟩) 0
 have b:=B1y (f:=fun x:A2m=>V8 x.tax x.sold x.left) (M:=10000000000000) (by decide) (l.take i) (fun x hx=>by
  obtain ⟨_,_,h1,h2,_,h3⟩:=A8l (hk x (D6E _ _ hx))
  have:=A3R h3.1 h1.1 h2.1 h2.2
  exact ⟨this.1,by omega⟩) 0
 unfold shG shT
 exact ⟨⟨by omega,by omega⟩,by omega,by omega⟩
set_option maxHeartbeats 2000000 in
theorem B3H (o:R7) (hs:Z3 o) (st:St):S P 18 [T8 o] st fun v st'=>v=A1x (A1h o)∧st'=st:=by
 have n1:=fun s=>B1T o hs s
 have hB:A1h o=if Z0 o=true then A2A o o.lines.length else ⟨0,0,0,0,0⟩:=by
  unfold A1h A2A;rw [D5L]
 have hO:Z0 o=true→o.lines.length≤1000∧∀ x∈o.lines,Z7 x=true:=fun h=>by
  rw [A9q] at h
  unfold B3t at h
  simp only [D5G,D5C,D5V] at h
  exact ⟨by omega,h.1.1.2⟩
 generalize Z0 o=b at *
 refine A1C ?_
 refine A7o [1,5] B2K mixed Tryz.func18 (by rfl) rfl rfl rfl ?_;conv=>whnf
 intro b2 hb2;conv=>whnf
 intro b3 hb3
 have h23:b2≠b3:=fun e=>by subst e;rw [A0] at hb3;cases hb3
 have hs2:E6 st (upd st b2 ⟨47,5,1,fun _=>H2 r47.zero⟩):=(E6.refl st).upd hb2
 have hb3':st b3=none:=hs2.none hb3
 conv=>whnf
 refine B3 (n1 _) ?_
 cases b
 ·rw [if_neg (by simp)] at hB
  rw [hB];conv=>whnf
  refine I4 (A0 ..) rfl ?_
  refine X8 (by rw [A9 h23];exact A0 ..) rfl ?_
  refine I4 (A0 ..) (A4 ..) ?_
  exact ⟨rfl,((hs2.upd hb3).over hb2)⟩
 rw [if_pos rfl] at hB
 obtain ⟨hl,hk⟩:=hO rfl
 rw [hB]
 clear hB n1 hO
 conv=>whnf
 refine lp o.lines.length [1,2,3,15,16,17] (fun i vs s=>vs=[.fptr (T8 o) 0,.optr 5 b2 0 0,.optr 5 b3 0 0,A8 6 O1 o.lines,eI o.lines.length,eI i]∧∃ f3,s=upd (upd st b2 ⟨47,5,1,fun _=>H2 r47.zero⟩) b3 ⟨47,5,1,f3⟩∧f3 0=A1x (A2A o i)) ?_ ?_
 ·conv=>whnf
  exact ⟨rfl,_,rfl,rfl⟩
 rintro i vs s hi ⟨rfl,f3,rfl,hf3⟩
 conv=>whnf
 cases h:decide ((i:Int)<(o.lines.length:Int))
 ·obtain rfl:=C2 h hi
  generalize A2A o o.lines.length=Z at *
  conv=>whnf
  refine I4 (A0 ..) hf3 ?_
  refine X8 (by rw [A9 h23];exact A0 ..) rfl ?_
  refine I4 (A0 ..) (A4 ..) ?_
  exact ⟨rfl,((hs2.upd hb3).over hb2)⟩
 have hi':=D6 h
 have hkx:=A8l (hk (o.lines.getD (i:Int).toNat default) (A6 hi'))
 obtain ⟨-,-,k1,k2,k3,k4⟩:=hkx
 have c1:=fun s=>C4K (o.lines.getD (i:Int).toNat default).goods (o.lines.getD (i:Int).toNat default).sold (o.lines.getD (i:Int).toNat default).left k3 k1 k2 s
 have c2:=fun s=>C4K (o.lines.getD (i:Int).toNat default).tax (o.lines.getD (i:Int).toNat default).sold (o.lines.getD (i:Int).toNat default).left k4 k1 k2 s
 have hin:=B3K hl hk i
 have u1:=A3R k3.1 k1.1 k2.1 k2.2
 have u2:=A3R k4.1 k1.1 k2.1 k2.2
 have sg:shG (o.lines.take (i+1))=shG (o.lines.take i)+V8 (o.lines.getD (i:Int).toNat default).goods (o.lines.getD (i:Int).toNat default).sold (o.lines.getD (i:Int).toNat default).left:=G8 hi' _ _
 have stt:shT (o.lines.take (i+1))=shT (o.lines.take i)+V8 (o.lines.getD (i:Int).toNat default).tax (o.lines.getD (i:Int).toNat default).sold (o.lines.getD (i:Int).toNat default).left:=G8 hi' _ _
 have sa:Q5 (o.lines.take (i+1))=(Q5 (o.lines.take i)||decide ((o.lines.getD (i:Int).toNat default).left>0)):=A8a hi'
 have w1:IntKind.i64.wrap (shG (o.lines.take i)+V8 (o.lines.getD (i:Int).toNat default).goods (o.lines.getD (i:Int).toNat default).sold (o.lines.getD (i:Int).toNat default).left)=shG (o.lines.take (i+1)):=by rw [sg];exact A5 (by omega) (by omega)
 have w2:IntKind.i64.wrap (shT (o.lines.take i)+V8 (o.lines.getD (i:Int).toNat default).tax (o.lines.getD (i:Int).toNat default).sold (o.lines.getD (i:Int).toNat default).left)=shT (o.lines.take (i+1)):=by rw [stt];exact A5 (by omega) (by omega)
 have hN:A2A o (i+1)=⟨shG (o.lines.take (i+1)),shT (o.lines.take (i+1)),if Q5 (o.lines.take (i+1))=true then o.ship else 0,if Q5 (o.lines.take (i+1))=true then o.shipTax else 0,0⟩:=rfl
 have hZ:A2A o i=⟨shG (o.lines.take i),shT (o.lines.take i),if Q5 (o.lines.take i)=true then o.ship else 0,if Q5 (o.lines.take i)=true then o.shipTax else 0,0⟩:=rfl
 rw [sa] at hN
 rw [hZ] at hf3
 generalize shG (o.lines.take (i+1))=G1 at *
 generalize shT (o.lines.take (i+1))=T1 at *
 generalize shG (o.lines.take i)=G0 at *
 generalize shT (o.lines.take i)=T0 at *
 generalize Q5 (o.lines.take i)=a0 at *
 generalize V8 (o.lines.getD (i:Int).toNat default).goods (o.lines.getD (i:Int).toNat default).sold (o.lines.getD (i:Int).toNat default).left=Y1 at *
 generalize V8 (o.lines.getD (i:Int).toNat default).tax (o.lines.getD (i:Int).toNat default).sold (o.lines.getD (i:Int).toNat default).left=Y2 at *
 clear hin u1 u2 sg stt sa hZ
 conv=>whnf
 refine E4 ?_
 refine I2 (c1 _) ?_
 refine I2 (c2 _) ?_
 refine I4 (A0 ..) hf3 ?_
 rw [w1]
 refine stU (A0 ..) hf3 ?_
 rw [B7];conv=>whnf
 refine I4 (A0 ..) (A4 ..) ?_
 rw [w2]
 refine stU (A0 ..) (A4 ..) ?_
 rw [B7];conv=>whnf
 refine B8 (fun h5=>?_) (fun h5=>?_)<;>rw [h5] at hN ⊢
 ·rw [D6q] at hN;conv=>whnf
  refine .inr ⟨[5,7],.qui 0 (.qui 1 (.qui 2 (.qui 3 (.qui 4 (.eff 5 [3] (.qui 6 (.eff 7 [] (.done)))))))),by kernel_rfl,?_⟩;conv=>whnf
  refine ⟨_,fun _=>True,trivial,fun s _=>⟨rfl,rfl⟩,?_⟩;conv=>whnf
  refine ⟨_,fun _=>True,trivial,fun s _=>⟨rfl,rfl⟩,?_⟩;conv=>whnf
  refine stU (A0 ..) (A4 ..) ?_
  rw [B7];conv=>whnf
  refine ⟨fun _=>trivial,?_⟩;conv=>whnf
  refine stU (A0 ..) (A4 ..) ?_
  rw [B7];conv=>whnf
  refine F6 ?_
  exact nx hi' ⟨by rw [B4 (by omega)],_,rfl,by rw [A4,hN];rfl⟩
 ·rw [D6s] at hN;conv=>whnf
  refine F6 ?_
  exact nx hi' ⟨by rw [B4 (by omega)],_,rfl,by rw [A4,hN];rfl⟩
set_option maxHeartbeats 2000000 in
theorem B6F (o:R7) (hs:Z3 o) (st:St):S P 26 [T8 o] st fun v st'=>v=A1x (A1h o)∧st'=st:=by
 have n1:=fun s=>B1S o hs s
 have hB:A1h o=if Z0 o=true then A2A o o.lines.length else ⟨0,0,0,0,0⟩:=by
  unfold A1h A2A;rw [D5L]
 have hO:Z0 o=true→o.lines.length≤1000∧∀ x∈o.lines,Z7 x=true:=fun h=>by
  rw [A9q] at h
  unfold B3t at h
  simp only [D5G,D5C,D5V] at h
  exact ⟨by omega,h.1.1.2⟩
 generalize Z0 o=b at *
 refine A1C ?_
 refine A7o [1,5] B2K mixed Tryz.func26 (by rfl) rfl rfl rfl ?_;conv=>whnf
 intro b2 hb2;conv=>whnf
 intro b3 hb3
 have h23:b2≠b3:=fun e=>by subst e;rw [A0] at hb3;cases hb3
 have hs2:E6 st (upd st b2 ⟨47,5,1,fun _=>H2 r47.zero⟩):=(E6.refl st).upd hb2
 have hb3':st b3=none:=hs2.none hb3
 conv=>whnf
 refine stU (A0 ..) rfl ?_
 rw [B7];conv=>whnf
 refine B3 (n1 _) ?_
 cases b
 ·rw [if_neg (by simp)] at hB
  rw [hB];conv=>whnf
  refine I4 (A0 ..) (A4 ..) ?_
  refine X8 (by rw [A9 h23];exact A0 ..) rfl ?_
  refine I4 (A0 ..) (A4 ..) ?_
  exact ⟨rfl,((hs2.upd hb3).over hb2)⟩
 rw [if_pos rfl] at hB
 obtain ⟨hl,hk⟩:=hO rfl
 rw [hB]
 clear hB n1 hO
 conv=>whnf
 refine lp o.lines.length [1,2,3,4] (fun i vs s=>vs=[.fptr (T8 o) 0,.optr 5 b2 0 0,.optr 5 b3 0 0,eI i]∧∃ f3,s=upd (upd st b2 ⟨47,5,1,fun _=>H2 r47.zero⟩) b3 ⟨47,5,1,f3⟩∧f3 0=A1x (A2A o i)) ?_ ?_
 ·conv=>whnf
  exact ⟨rfl,_,rfl,A4 ..⟩
 rintro i vs s hi ⟨rfl,f3,rfl,hf3⟩
 conv=>whnf
 cases h:decide ((i:Int)<(o.lines.length:Int))
 ·obtain rfl:=C2 h hi
  generalize A2A o o.lines.length=Z at *
  conv=>whnf
  refine I4 (A0 ..) hf3 ?_
  refine X8 (by rw [A9 h23];exact A0 ..) rfl ?_
  refine I4 (A0 ..) (A4 ..) ?_
  exact ⟨rfl,((hs2.upd hb3).over hb2)⟩
 have hi':=D6 h
 have hkx:=A8l (hk (o.lines.getD (i:Int).toNat default) (A6 hi'))
 obtain ⟨-,-,k1,k2,k3,k4⟩:=hkx
 have c1:=fun s=>B9G (o.lines.getD (i:Int).toNat default).goods (o.lines.getD (i:Int).toNat default).sold (o.lines.getD (i:Int).toNat default).left k3 k1 k2 s
 have c2:=fun s=>B9G (o.lines.getD (i:Int).toNat default).tax (o.lines.getD (i:Int).toNat default).sold (o.lines.getD (i:Int).toNat default).left k4 k1 k2 s
 have hin:=B3K hl hk i
 have u1:=A3R k3.1 k1.1 k2.1 k2.2
 have u2:=A3R k4.1 k1.1 k2.1 k2.2
 have sg:shG (o.lines.take (i+1))=shG (o.lines.take i)+V8 (o.lines.getD (i:Int).toNat default).goods (o.lines.getD (i:Int).toNat default).sold (o.lines.getD (i:Int).toNat default).left:=G8 hi' _ _
 have stt:shT (o.lines.take (i+1))=shT (o.lines.take i)+V8 (o.lines.getD (i:Int).toNat default).tax (o.lines.getD (i:Int).toNat default).sold (o.lines.getD (i:Int).toNat default).left:=G8 hi' _ _
 have sa:Q5 (o.lines.take (i+1))=(Q5 (o.lines.take i)||decide ((o.lines.getD (i:Int).toNat default).left>0)):=A8a hi'
 have w1:IntKind.i64.wrap (shG (o.lines.take i)+V8 (o.lines.getD (i:Int).toNat default).goods (o.lines.getD (i:Int).toNat default).sold (o.lines.getD (i:Int).toNat default).left)=shG (o.lines.take (i+1)):=by rw [sg];exact A5 (by omega) (by omega)
 have w2:IntKind.i64.wrap (shT (o.lines.take i)+V8 (o.lines.getD (i:Int).toNat default).tax (o.lines.getD (i:Int).toNat default).sold (o.lines.getD (i:Int).toNat default).left)=shT (o.lines.take (i+1)):=by rw [stt];exact A5 (by omega) (by omega)
 have hN:A2A o (i+1)=⟨shG (o.lines.take (i+1)),shT (o.lines.take (i+1)),if Q5 (o.lines.take (i+1))=true then o.ship else 0,if Q5 (o.lines.take (i+1))=true then o.shipTax else 0,0⟩:=rfl
 have hZ:A2A o i=⟨shG (o.lines.take i),shT (o.lines.take i),if Q5 (o.lines.take i)=true then o.ship else 0,if Q5 (o.lines.take i)=true then o.shipTax else 0,0⟩:=rfl
 rw [sa] at hN
 rw [hZ] at hf3
 generalize shG (o.lines.take (i+1))=G1 at *
 generalize shT (o.lines.take (i+1))=T1 at *
 generalize shG (o.lines.take i)=G0 at *
 generalize shT (o.lines.take i)=T0 at *
 generalize Q5 (o.lines.take i)=a0 at *
 generalize V8 (o.lines.getD (i:Int).toNat default).goods (o.lines.getD (i:Int).toNat default).sold (o.lines.getD (i:Int).toNat default).left=Y1 at *
 generalize V8 (o.lines.getD (i:Int).toNat default).tax (o.lines.getD (i:Int).toNat default).sold (o.lines.getD (i:Int).toNat default).left=Y2 at *
 clear hin u1 u2 sg stt sa hZ
 conv=>whnf
 refine E4 ?_
 refine I2 (c1 _) ?_
 refine I2 (c2 _) ?_
 refine I4 (A0 ..) hf3 ?_
 refine I4 (A0 ..) hf3 ?_
 rw [w1]
 refine stU (A0 ..) hf3 ?_
 rw [B7];conv=>whnf
 rw [w2]
 refine stU (A0 ..) (A4 ..) ?_
 rw [B7];conv=>whnf
 refine B8 (fun h5=>?_) (fun h5=>?_)<;>rw [h5] at hN ⊢
 ·rw [D6q] at hN;conv=>whnf
  refine .inr ⟨[5,7],.qui 0 (.qui 1 (.qui 2 (.qui 3 (.qui 4 (.eff 5 [3] (.qui 6 (.eff 7 [] (.done)))))))),by kernel_rfl,?_⟩;conv=>whnf
  refine ⟨_,fun _=>True,trivial,fun s _=>⟨rfl,rfl⟩,?_⟩;conv=>whnf
  refine ⟨_,fun _=>True,trivial,fun s _=>⟨rfl,rfl⟩,?_⟩;conv=>whnf
  refine stU (A0 ..) (A4 ..) ?_
  rw [B7];conv=>whnf
  refine ⟨fun _=>trivial,?_⟩;conv=>whnf
  refine stU (A0 ..) (A4 ..) ?_
  rw [B7];conv=>whnf
  refine F6 ?_
  exact nx hi' ⟨by rw [B4 (by omega)],_,rfl,by rw [A4,hN];rfl⟩
 ·rw [D6s] at hN;conv=>whnf
  refine F6 ?_
  exact nx hi' ⟨by rw [B4 (by omega)],_,rfl,by rw [A4,hN];rfl⟩
def aqZ:K7:=⟨⟨#[122]⟩,[],1000,0⟩
def aqI:List Ab.Item:=[⟨⟨#[97]⟩,⟨#[120]⟩,50,false⟩]
def aqR:H0:=⟨aqI,[],⟨false,false,0,[aqZ]⟩,⟨0,0⟩,⟨0,0,1,0,[],[]⟩⟩
def aqL:List E7:=[⟨⟨#[97]⟩,2,50⟩]
def aqA:List Add:=[⟨⟨#[97]⟩,2⟩]
def aqQ:A0S:=⟨[100],[10],0,0,110,[]⟩
theorem C2z:X2 aqI aqA=(aqL,0):=by kernel_rfl
theorem C2x:D8 aqR [] aqL=0:=by kernel_rfl
theorem C2A:A0f aqR aqL [] []=⟨[100],100,0,[]⟩:=by kernel_rfl
theorem C2y:A0T aqR:=⟨D6b _,fun p hp=>absurd hp D7f,by show 0<_;decide,by show 0<_;decide⟩
theorem B6B {codes:List C8} {o:List Int} (ho:A8R [] codes o):P4 [] o=[]:=List.perm_nil.1 ((B3G [] o).trans ho.1)
theorem C0f (st:St):S P 122 [H5 aqR,C9 [],A8 3 H7 aqL] st fun v st'=>v=.tuple [A1f ⟨[100],100,0,[]⟩,eI 0]∧st'=st :=
 (price_S B6R aqR [] aqL C2y (by decide) (by decide) (by decide) st).mono fun v s hv=>by
  obtain ⟨hv,rfl⟩:=hv
  refine ⟨?_,rfl⟩
  rcases hv with ⟨h,_⟩ | ⟨_,o1,o2,h1,h2,h3⟩
  ·exact absurd C2x h
  ·rw [show aqR.promos=[] from rfl] at h1 h2 h3
   rw [B6B h1,B6B h2,C2A] at h3
   exact h3
theorem B4b:A2z aqR.tax aqZ (N2 aqR aqL) [100] 0:=by
 refine ⟨by kernel_rfl,by kernel_rfl,by kernel_rfl,⟨by decide,fun x hx=>?_,by decide⟩,by decide⟩
 rw [D6f.1 hx];decide
theorem C0g (st:St):S P 60 [H5 aqR,eS ⟨#[122]⟩,eB false,C9 [],A8 3 H7 aqL] st fun v st'=>v=.tuple [A0e aqQ,eI 0]∧st'=st:=by
 have hI:∀ st,S P 123 [A8 4 E5 aqR.items,A8 3 H7 aqL] st fun v s=>v=A8 4 E5 (C3 aqR.items aqL)∧s=st:=fun st=>A9j _ _ (by decide) (by decide) (fun x hx=>by rw [D6f.1 hx];kernel_rfl) st
 have h:=quote_S (r:=aqR) (codes:=[]) (l:=aqL) (Pr:=⟨[100],100,0,[]⟩) (z:=aqZ) (zone:=⟨#[122]⟩) false C0f hI (by decide) B4b (by kernel_rfl) (fun st=>B5z aqR.tax _ _ (by decide) (by kernel_rfl) (fun x hx=>(A3y B4b).2 x hx) st) (B3w B4b false) st
 rw [show A9z aqR aqZ false aqL ⟨[100],100,0,[]⟩=aqQ by kernel_rfl] at h
 exact h
theorem B7s (l:List C8) (hl:l.length≤100000) (st:St):S P 62 [A8 1 eS l] st fun v st'=>E1 9 1 eS l st v st':=by
 refine SyW [] Tryz.func62 ?_
 cases l with
 | nil =>
  conv=>whnf
  refine ⟨?_,?_⟩
  ·conv=>whnf
   exact Col.start _ _ _ _
  ·conv=>whnf
   refine apE rfl rfl rfl rfl rfl (by show 0 * 16≤_;omega) (fun _=>?_) (fun h=>absurd h (by show ¬ 0<0;omega));conv=>whnf
   exact Col.start _ _ _ _
 | cons u us =>
  conv=>whnf
  refine Col.apps (n:=0) (m:=us.length+1) (q:=r9) (f:=fun k=>eS ((u::us).getD k default)) rfl rfl rfl rfl rfl (fun i hi=>by rw [D5R]) (by show (0+(us.length+1)) * 16≤140737488355328;simp only [D6n] at hl;omega) (Col.start _ _ _ _) (fun sv' st'' hc'=>?_);conv=>whnf
  rw [D5R] at hc'
  exact hc'
theorem B5A (l:List C8) (hl:l.length≤100000) (st:St):S P 62 [A8 1 eS l] st fun v st'=>v=A8 1 eS l∧st'=st:=A0M (B7s l hl st)
structure Pay where
 kind:Int
 amount:Int
 deriving Inhabited
def B1b (x:Pay):AV:=.agg [eI x.kind,eI x.amount]
def A3E (x:Pay):Bool:=J9 1 9 x.kind&&decide (x.amount≥1)&&I9 x.amount
def O0 (l:List Pay):Int:=l.foldl (fun a x=>a+x.amount) 0
def A8v (l:List Pay) (total:Int):Bool:=decide ((l.length:Int)≤6)&&l.all A3E&&(O0 l==total)
theorem B4D {l:List Pay}:∀ i,i≤l.length→(∀ k,k<i→A3E (l.getD k default)=true)→0≤O0 (l.take i)∧O0 (l.take i)≤100000000000000 * (i:Int)
 | 0,_,_=>⟨by rw [D7o];exact D6j _,by rw [D7o];exact D6j _⟩
 | i+1,hi,h=>by
  have ih:=B4D i (by omega) fun k hk=>h k (by omega)
  have hx:=h i (by omega)
  unfold A3E I9 at hx
  simp only [D5G,F4,D5C] at hx
  have e:O0 (l.take (i+1))=O0 (l.take i)+(l.getD i default).amount:=G8 (by omega) _ _
  rw [e]
  omega
theorem C8j (l:List Pay) (total:Int) (hl:l.length≤100000) (st:St):S P 61 [A8 2 B1b l,eI total] st fun v st'=>v=.bool (A8v l total)∧st'=st:=by
 have hP:A8v l total=(decide ((l.length:Int)≤6)&&l.all A3E&&(O0 l==total)):=rfl
 refine F1 [7] Tryz.func61 ?_
 refine B8 (fun h=>?_) (fun h=>?_)<;>rw [h]<;>simp only [D5C,D5B] at h
 ·rw [D5H (by omega)] at hP
  rw [hP];conv=>whnf
  exact ⟨rfl,rfl⟩
 rw [D6m (by omega),D5P] at hP;conv=>whnf
 refine lp l.length [1,5,11,12,13] (fun i vs s=>(∀ k,k<i→A3E (l.getD k default)=true)∧vs=[eI total,eI (O0 (l.take i)),A8 2 B1b l,eI l.length,eI i]∧s=st) ?_ ?_
 ·conv=>whnf
  exact ⟨fun k hk=>absurd hk (by omega),rfl,rfl⟩
 rintro i vs s hi ⟨hok,rfl,rfl⟩
 conv=>whnf
 cases h1:decide ((i:Int)<(l.length:Int))
 ·obtain rfl:=C2 h1 hi
  rw [show l.all A3E=true from D5V.2 fun x hx=>by obtain ⟨k,hk,rfl⟩:=D3 hx;exact hok k hk,D5P] at hP
  rw [hP,D5L]
  generalize O0 l=Z
  conv=>whnf
  exact ⟨rfl,rfl⟩
 have hi':=D6 h1
 have n1:=fun s=>B7N (l.getD (i:Int).toNat default).kind s
 have n2:=fun s=>A5a (l.getD (i:Int).toNat default).amount s
 have hx:A3E (l.getD (i:Int).toNat default)=(J9 1 9 (l.getD (i:Int).toNat default).kind&&decide ((l.getD (i:Int).toNat default).amount≥1)&&I9 (l.getD (i:Int).toNat default).amount):=rfl
 have hb:=B4D i hi hok
 have hs:O0 (l.take (i+1))=O0 (l.take i)+(l.getD (i:Int).toNat default).amount:=G8 hi' _ _
 have hm:A3E (l.getD (i:Int).toNat default)=true→0≤(l.getD (i:Int).toNat default).amount∧(l.getD (i:Int).toNat default).amount≤100000000000000:=fun hm=>by
  rw [hx] at hm
  unfold I9 at hm
  simp only [D5G,F4,D5C] at hm
  omega
 have hw:A3E (l.getD (i:Int).toNat default)=true→IntKind.i64.wrap (O0 (l.take i)+(l.getD (i:Int).toNat default).amount)=O0 (l.take (i+1)):=fun h2=>by
  have:=hm h2
  rw [hs];exact A5 (by omega) (by omega)
 have yes:A3E (l.getD (i:Int).toNat default)=true→∀ k,k<i+1→A3E (l.getD k default)=true:=fun hm=>G6 hok hm
 have no:A3E (l.getD (i:Int).toNat default)=false→A8v l total=false:=fun hm=>by
  rw [hP,show l.all A3E=false by
   have hm:A3E (l.getD i default)=false:=hm
   rw [D7k];intro e
   rw [D5V.1 e _ (A6 hi')] at hm;cases hm]
  rfl
 generalize A3E (l.getD (i:Int).toNat default)=t at hx hw yes no
 generalize hY:O0 (l.take (i+1))=Y at hw
 generalize O0 (l.take i)=Z at hw ⊢
 clear hok hb hs hm hP
 conv=>whnf
 refine ⟨rfl,⟨by omega,by omega⟩,?_⟩
 generalize J9 1 9 (l.getD (i:Int).toNat default).kind=b1 at *
 generalize I9 (l.getD (i:Int).toNat default).amount=b2 at *
 cases t with
 | true =>
  have hx:=hx.symm
  simp only [D5G,D5C] at hx
  obtain ⟨⟨rfl,e3⟩,rfl⟩:=hx
  have g1:decide ((l.getD (i:Int).toNat default).amount<1)=false:=D5H (by omega)
  repeat' ((conv=>whnf);first | refine B3 (n1 _) ?_ | refine B3 (n2 _) ?_ | rw [g1])
  refine F6 ?_
  exact nx hi' ⟨yes rfl,by rw [hY,←hw rfl,B4 (by omega)],rfl⟩
 | false =>
  repeat' ((conv=>whnf);first | refine B3 (n1 _) ?_ | refine B3 (n2 _) ?_ | (refine B8 (fun h=>?_) (fun h=>?_)<;>rw [h]))
  all_goals first
   | (exfalso
      simp only [D5Q,D6g,D5C,D5B] at *
      have e:(b1&&decide ((l.getD (i:Int).toNat default).amount≥1)&&b2)=true:=by
       simp only [D5G,D5C]
       exact ⟨⟨by assumption,by omega⟩,by assumption⟩
      rw [←hx] at e;cases e;done)
   | (conv=>whnf
      rw [no rfl]
      exact ⟨rfl,rfl⟩)
def A3p (l:List E7) (q:A0S) (i:Nat):A2m:=⟨(l.getD i default).sku,(l.getD i default).price,(l.getD i default).qty,(l.getD i default).qty,gI q.goods i,gI q.taxes i⟩
def A1m (l:List E7) (q:A0S):List A2m:=(List.range l.length).map (A3p l q)
theorem C7W (l:List E7) (q:A0S) (hl:l.length≤1000) (h1:q.goods.length=l.length) (h2:q.taxes.length=l.length) (st:St):S P 63 [A8 3 H7 l,A0e q] st fun v st'=>v=A8 6 O1 (A1m l q)∧st'=st:=by
 refine A0M (ty:=55) ?_
 refine F1 [3,7] Tryz.func63 ?_
 refine lp l.length [3,5,8,9,10] (fun i vs s=>∃ sv,vs=[.fptr (A0e q) 0,sv,A8 3 H7 l,eI l.length,eI i]∧E1 55 6 O1 ((List.range i).map (A3p l q)) st sv s) ?_ ?_
 ·conv=>whnf
  exact ⟨.emp,rfl,E1.start _ _ _ _⟩
 rintro i vs s hi ⟨sv,rfl,hc⟩
 conv=>whnf
 cases h:decide ((i:Int)<(l.length:Int))
 ·obtain rfl:=C2 h hi
  conv=>whnf
  exact hc
 have hi':=D6 h
 have hln:((List.range i).map (A3p l q)).length=i:=by rw [D5F,D6d]
 have htk:(List.range (i+1)).map (A3p l q)=(List.range i).map (A3p l q)++[A3p l q i]:=by rw [D7i,D6i];rfl
 conv=>whnf
 refine E4 ?_
 refine ⟨[20,21],[],List.range 23,by kernel_rfl,?_⟩;conv=>whnf
 refine ⟨rfl,⟨by omega,by rw [h1];omega⟩,?_⟩;conv=>whnf
 refine ⟨rfl,⟨by omega,by rw [h2];omega⟩,?_⟩;conv=>whnf
 refine E1.app (q:=r55) (y:=A3p l q i) rfl rfl rfl rfl rfl rfl (by rw [hln];show (i+1) * 56≤140737488355328;omega) hc (fun sv' s' hc'=>?_);conv=>whnf
 refine F6 ?_
 exact nx hi' ⟨sv',by rw [B4 (by omega)],by rw [htk];exact hc'⟩
def aqP:List Pay:=[⟨1,110⟩]
def aqK:List A2m:=[⟨⟨#[97]⟩,50,2,2,100,10⟩]
def aqO:R7:=⟨⟨#[111]⟩,1,⟨#[122]⟩,false,[],3,aqK,0,0,0,110,⟨100,10,0,0,0⟩,[⟨1,110,0⟩]⟩
def aqC:AV:=.agg [eI 0,eS ⟨#[]⟩,.emp,.emp,eB false,eB false,eI 0,.emp,eI 0,eI 0,eI 0,eI 0,eI 0,eI 0,.emp,.emp,eI 0,eS ⟨#[111]⟩,eS ⟨#[122]⟩,eB false,.emp,A8 2 A4U aqA,A8 2 B1b aqP,.emp,eI 0,eI 0,eI 0]
theorem C0e (st:St):S P 58 [H5 aqR,eI 1,aqC,eI 3] st fun v st'=>v=eI 0∧st'=st:=by
 have n1:=C2O 3 st
 rw [show J9 0 100000 3=true by kernel_rfl] at n1
 have n2:=A2F ⟨#[111]⟩ st
 rw [show D1 ⟨#[111]⟩=true by kernel_rfl] at n2
 have n3:=A2F ⟨#[122]⟩ st
 rw [show D1 ⟨#[122]⟩=true by kernel_rfl] at n3
 have n4:=B9F aqR C2y st
 rw [show W0 aqR=true by kernel_rfl] at n4
 have n5:S P 120 [.emp] st fun v st'=>v=.bool true∧st'=st:=(by
  have h:=B4i [] (by decide) st
  rw [show S6 []=true by kernel_rfl] at h
  exact h.pre (I0 1 _))
 refine SyW [4,6] Tryz.func58 ?_
 repeat' ((conv=>whnf);first | refine B3 n1 ?_ | refine B3 n2 ?_ | refine B3 n3 ?_ | refine B3 n4 ?_ | refine B3 n5 ?_)
 exact ⟨rfl,rfl⟩
set_option maxHeartbeats 2000000 in
theorem C2w (st:St):S P 17 [H5 aqR,eI 1,aqC,eI 3] st fun v st'=>v=.tuple [T8 aqO,eI 0]∧st'=st:=by
 have n1:=fun s=>C0e s
 have n2:=fun s=>C3N aqI aqA (by decide) s
 rw [C2z] at n2
 have n3:∀ s,S P 60 [H5 aqR,eS ⟨#[122]⟩,eB false,.emp,A8 3 H7 aqL] s fun v s'=>v=.tuple [A0e aqQ,eI 0]∧s'=s:=fun s =>
  (C0g s).pre (A7.cons (A7.keep [H5 aqR] _) (A7.cons (A7.keep [eS ⟨#[122]⟩] _) (A7.cons (A7.keep [eB false] _) (A7.cons (I0 1 _) (A7.keep _ _)))))
 have n4:=fun s=>C8j aqP 110 (by decide) s
 rw [show A8v aqP 110=true by kernel_rfl] at n4
 have n5:∀ s,S P 62 [.emp] s fun v s'=>v=A8 1 eS []∧s'=s:=fun s=>(B5A [] (by decide) s).pre (I0 1 _)
 have n6:=fun s=>C7W aqL aqQ (by decide) rfl rfl s
 rw [show A1m aqL aqQ=aqK by kernel_rfl] at n6
 have n7:=fun s=>C7F aqQ ⟨by decide,fun x hx=>by rw [D6f.1 hx];decide⟩ ⟨by decide,fun x hx=>by rw [D6f.1 hx];decide⟩ s
 rw [show A2q aqQ=⟨100,10,0,0,0⟩ by kernel_rfl] at n7
 refine S.post (post:=fun v s'=>∃ b g,st b=none∧s' b=some ⟨70,3,1,g⟩∧g 0=P8 ⟨1,110,0⟩∧E6 st s' ∧
  v=.tuple [.agg [eS ⟨#[111]⟩,eI 1,eS ⟨#[122]⟩,eB false,A8 1 eS [],eI 3,A8 6 O1 aqK,eI 0,eI 0,eI 0,eI 110,eI 100,eI 10,eI 0,eI 0,eI 0,.own 3 b 0 1],eI 0]) ?_ (fun v s' ⟨b,g,hb,hg,hg0,hs,hv⟩=>⟨_,st,⟨rfl,rfl⟩,by
   rw [hv]
   have h1:=N7 (st:=s') (f:=fun k=>P8 ((⟨1,110,0⟩::[]:List Y6).getD k default)) hg rfl (D5J _) (fun i hi=>by
    have hi:i<1:=hi
    have:i=0:=by omega
    subst this;exact hg0)
   have hA:A7 [.tuple [.agg [eS ⟨#[111]⟩,eI 1,eS ⟨#[122]⟩,eB false,A8 1 eS [],eI 3,A8 6 O1 aqK,eI 0,eI 0,eI 0,eI 110,eI 100,eI 10,eI 0,eI 0,eI 0,.own 3 b 0 1],eI 0]] s' [.tuple [T8 aqO,eI 0]] (del s' b):=by
    refine A7.tuple (A7.cons (A7.agg ?_) (A7.keep _ _)) rfl
    iterate 16 refine A7.cons (A7.keep [_] _) ?_
    exact h1
   exact hA.trans ((hs.del hb).shift _)⟩)
 refine F1 [4,6,16] Tryz.func17 ?_
 intro b8 hb8;conv=>whnf
 refine I2 (n1 _) ?_
 refine I2 (n2 _) ?_
 refine I2 (n3 _) ?_
 intro b13 hb13
 have h813:b8≠b13:=fun e=>by subst e;rw [A0] at hb13;cases hb13
 conv=>whnf
 refine stU (A0 ..) rfl ?_
 rw [B7];conv=>whnf
 generalize hst:(upd (upd st b8 _) b13 _:St)=S0
 obtain ⟨f13,at13,hf13⟩:∃ f13:Nat→AV,S0 b13=some ⟨113,6,1,f13⟩∧f13 0=A0e aqQ:=by rw [←hst];exact ⟨_,A0 ..,by rw [A4];rfl⟩
 obtain ⟨f8,at8,hf8⟩:∃ f8:Nat→AV,S0 b8=some ⟨50,17,1,f8⟩∧f8 0=H2 r50.zero:=by rw [←hst,A9 h813];exact ⟨_,A0 ..,rfl⟩
 have hs0:E6 st S0:=by rw [←hst];exact ((E6.refl st).upd hb8).upd hb13
 clear hst hb13
 refine I4 at13 hf13 ?_
 refine I2 (n4 _) ?_
 refine ⟨[23,24],[1,4,6,8,9,12,13,15,17,19,20,21],List.range 25,by kernel_rfl,?_⟩
 repeat' ((conv=>whnf);first | refine ⟨_,fun s _=>⟨rfl,rfl⟩,?_⟩ | refine ⟨_,fun s _=>F2 (n5 s),?_⟩ | refine ⟨_,fun s _=>F2 (n6 s),?_⟩ | refine ⟨_,fun s _=>F2 (n7 s),?_⟩ | refine ⟨_,fun s hs=>ldV (hs _ _ at13) rfl (by omega) hf13 ⟨rfl,rfl⟩,?_⟩ | fail)
 intro b14 hb14
 have h814:b8≠b14:=fun e=>by subst e;rw [at8] at hb14;cases hb14
 conv=>whnf
 refine stU (A0 ..) rfl ?_
 rw [B7];conv=>whnf
 generalize hst:(upd S0 b14 _:St)=S1
 obtain ⟨f14,at14,hf14⟩:∃ f14:Nat→AV,S1 b14=some ⟨50,17,1,f14⟩∧f14 0=.agg [eS ⟨#[111]⟩,eI 1,eS ⟨#[122]⟩,eB false,A8 1 eS [],eI 3,A8 6 O1 aqK,eI 0,eI 0,eI 0,eI 110,eI 100,eI 10,eI 0,eI 0,eI 0,.emp]:=by rw [←hst];exact ⟨_,A0 ..,by rw [A4];rfl⟩
 have at8:S1 b8=some ⟨50,17,1,f8⟩:=by rw [←hst,A9 h814];exact at8
 have hs1:E6 st S1:=by rw [←hst];exact hs0.upd hb14
 have hn14:st b14=none:=hs0.none hb14
 clear hst hb14 at13
 refine ⟨[8,14,85,86,87],fun m vs s=>∃ i:Nat,m=1 - i∧vs=[.optr 17 b8 0 0,.optr 17 b14 0 0,A8 2 B1b aqP,eI 1,eI i]∧((i=0∧s=S1)∨(i=1∧∃ b g f,S1 b=none∧s=upd (upd S1 b ⟨70,3,1,g⟩) b14 ⟨50,17,1,f⟩∧g 0=P8 ⟨1,110,0⟩∧f 0=.agg [eS ⟨#[111]⟩,eI 1,eS ⟨#[122]⟩,eB false,A8 1 eS [],eI 3,A8 6 O1 aqK,eI 0,eI 0,eI 0,eI 110,eI 100,eI 10,eI 0,eI 0,eI 0,.own 3 b 0 1])),?_,?_⟩
 ·conv=>whnf
  exact ⟨1,0,rfl,rfl,.inl ⟨rfl,rfl⟩⟩
 rintro m vs s ⟨i,rfl,rfl,⟨rfl,rfl⟩ | ⟨rfl,bT,g,f,hbT,rfl,hg,hf⟩⟩
 ·conv=>whnf
  refine ⟨rfl,⟨by decide,by decide⟩,?_⟩;conv=>whnf
  refine I4 at14 hf14 ?_
  refine apE rfl rfl rfl rfl (A2K ..) (by show 1 * 24≤_;omega) (fun h=>absurd h (by omega)) (fun _ bT hbT=>?_)
  have hne:b14≠bT:=fun e=>by subst e;rw [at14] at hbT;cases hbT
  conv=>whnf
  refine X8 (by rw [A9 hne];exact at14) hf14 ?_
  refine F6 ?_
  exact ⟨0,by decide,1,rfl,rfl,.inr ⟨rfl,bT,_,_,hbT,rfl,rfl,by rw [A4];rfl⟩⟩
 ·have hne:b14≠bT:=fun e=>by subst e;rw [at14] at hbT;cases hbT
  have hne8:b8≠bT:=fun e=>by subst e;rw [at8] at hbT;cases hbT
  conv=>whnf
  refine I4 (A0 ..) hf ?_
  refine X8 (by rw [A9 h814,A9 hne8];exact at8) hf8 ?_
  refine I4 (A0 ..) (A4 ..) ?_
  exact ⟨bT,g,hs1.none hbT,by rw [A9 hne8.symm,A9 hne.symm];exact A0 ..,hg,((hs1.upd hbT).over hn14).over hb8,rfl⟩
def B1z (t:Int) (x:Pay):Pay:=⟨1+B5 x.kind 5,1+B5 x.amount t⟩
def A3M (s:Int×List Pay) (x:Pay):Int×List Pay :=
 if s.1>1 then (if (B1z s.1 x).amount<s.1 then (s.1 - (B1z s.1 x).amount,s.2++[B1z s.1 x]) else s) else s
def M9 (t:Int) (l:List Pay):Int×List Pay:=l.foldl A3M (t,[])
def R1 (t:Int) (l:List Pay):List Pay :=
 if (M9 t (l.take 2)).1>0 then (M9 t (l.take 2)).2++[⟨1+B5 l.length 5,(M9 t (l.take 2)).1⟩] else (M9 t (l.take 2)).2
theorem B1A (a:List Pay) (x:Pay):O0 (a++[x])=O0 a+x.amount:=by unfold O0;rw [D7P];rfl
theorem C3F {t:Int} (ht:1<t∧t≤100000000000000) (x:Pay):A3E (B1z t x)=true:=by
 have h1:=C7 x.kind (n:=5) (by decide)
 have h2:=C7 x.amount (n:=t) (by omega)
 unfold A3E I9 B1z
 simp only [D5G,F4,D5C]
 omega
structure B8V (t:Int) (n:Nat) (s:Int×List Pay):Prop where
 left:0≤s.1∧s.1≤t
 sum:O0 s.2+s.1=t
 ok:∀ x∈s.2,A3E x=true
 len:s.2.length≤n
theorem B8V.step {t:Int} {n:Nat} {s:Int×List Pay} (ht:t≤100000000000000) (h:B8V t n s) (x:Pay):B8V t (n+1) (A3M s x):=by
 obtain ⟨h1,h2,h3,h4⟩:=h
 unfold A3M
 split
 ·rename_i hs
  split
  ·rename_i ha
   have hk:=C3F (t:=s.1) ⟨hs,by omega⟩ x
   have hp:(B1z s.1 x).amount≥1:=by
    unfold A3E at hk
    simp only [D5G,D5C] at hk
    exact hk.1.2
   exact ⟨⟨by show 0≤s.1 - _;omega,by show s.1 - _≤t;omega⟩,by show O0 (s.2++[_])+(s.1 - _)=t;rw [B1A];omega,fun y hy=>by
    rcases D6Q.1 hy with hy | hy
    ·exact h3 y hy
    ·rw [D6f.1 hy];exact hk,by show (s.2++[_]).length≤n+1;rw [D5M];exact Nat.succ_le_succ h4⟩
  ·exact ⟨h1,h2,h3,by omega⟩
 ·exact ⟨h1,h2,h3,by omega⟩
theorem A7B {t:Int} (h0:0≤t) (ht:t≤100000000000000) (l:List Pay):∀ i,i≤l.length→B8V t i (M9 t (l.take i))
 | 0,_=>⟨⟨h0,D6j _⟩,by show 0+t=t;omega,fun x hx=>(by cases hx),D5J _⟩
 | i+1,hi=>by
  have:=(A7B h0 ht l i (by omega)).step ht (l.getD i default)
  rwa [show M9 t (l.take (i+1))=A3M (M9 t (l.take i)) (l.getD i default) from G8 (by omega) _ _]
theorem B2N {t:Int} (h0:0≤t) (ht:t≤100000000000000) (l:List Pay):A8v (R1 t l) t=true∧(R1 t l).length≤3:=by
 have hlen:(l.take 2).length≤2:=by rw [D5K];omega
 have h:=A7B h0 ht (l.take 2) (l.take 2).length (D5J _)
 rw [D5L] at h
 obtain ⟨h1,h2,h3,h4⟩:=h
 have hm:=C7 (l.length:Int) (n:=5) (by decide)
 unfold R1 A8v
 generalize M9 t (l.take 2)=s at *
 split
 ·rename_i hp
  refine ⟨?_,by rw [D5M];show s.2.length+1≤3;omega⟩
  rw [B1A]
  simp only [D5G,D5C,D5V,D6z]
  refine ⟨⟨by rw [D5M];show ((s.2.length+1:Nat):Int)≤6;omega,fun x hx=>?_⟩,h2⟩
  rcases D6Q.1 hx with hx | hx
  ·exact h3 x hx
  ·rw [D6f.1 hx]
   unfold A3E I9
   simp only [D5G,F4,D5C]
   omega
 ·rename_i hp
  simp only [D5G,D5C,D5V,D6z]
  exact ⟨⟨⟨by omega,h3⟩,by omega⟩,by omega⟩
theorem B6f {t:Int} {l:List Pay} {i:Nat} (h:(M9 t (l.take i)).1≤1):∀ j,i≤j→M9 t (l.take j)=M9 t (l.take i)
 | 0,hj=>by rw [show i=0 by omega]
 | j+1,hj=>by
  by_cases e:i=j+1
  ·rw [e]
  ·have ih:=B6f h j (by omega)
   by_cases hl:j<l.length
   ·rw [show M9 t (l.take (j+1))=A3M (M9 t (l.take j)) (l.getD j default) from G8 hl _ _,ih]
    unfold A3M
    rw [if_neg (by omega)]
   ·rw [D7t (by omega)] at ih ⊢
    exact ih
set_option maxHeartbeats 2000000 in
theorem B8g (t:Int) (l:List Pay) (h0:0≤t) (ht:t≤100000000000000) (hl:l.length≤100000) (st:St):S P 57 [eI t,A8 2 B1b l] st fun v st'=>v=A8 2 B1b (R1 t l)∧st'=st:=by
 refine A0M (ty:=73) ?_
 refine F1 [7] Tryz.func57 ?_
 refine lp (min l.length 2) [0,1,5,6] (fun i vs s=>∃ sv,vs=[eI (M9 t (l.take i)).1,A8 2 B1b l,sv,eI i]∧E1 73 2 B1b (M9 t (l.take i)).2 st sv s) ?_ ?_
 ·conv=>whnf
  exact ⟨.emp,rfl,E1.start _ _ _ _⟩
 rintro i vs s hi ⟨sv,rfl,hc⟩
 have hin:=A7B h0 ht l i (by omega)
 have hfin:(¬ i<l.length∨¬ i<2∨¬(M9 t (l.take i)).1>1)→M9 t (l.take 2)=M9 t (l.take i):=fun h=>by
  rcases h with h | h | h
  ·rw [show i=l.length by omega,D5L,D7t (by omega)]
  ·rw [show i=2 by omega]
  ·exact B6f (by omega) 2 (by omega)
 have hst:i<l.length→M9 t (l.take (i+1))=A3M (M9 t (l.take i)) (l.getD (i:Int).toNat default):=fun h=>G8 h _ _
 have hP:R1 t l=if (M9 t (l.take 2)).1>0 then (M9 t (l.take 2)).2++[⟨1+B5 l.length 5,(M9 t (l.take 2)).1⟩] else (M9 t (l.take 2)).2:=rfl
 generalize hS1:M9 t (l.take (i+1))=S1 at hst
 generalize M9 t (l.take 2)=S2 at hfin hP
 generalize M9 t (l.take i)=S0 at *
 obtain ⟨L,O⟩:=S0
 obtain ⟨⟨z0,z1⟩,-,-,z3⟩:=hin
 simp only at *
 conv=>whnf
 refine B8 (fun h1=>?_) (fun h1=>?_)<;>rw [h1]<;>simp only [D5C,D5B] at h1
 case' refine_1 =>
  conv=>whnf
  refine B8 (fun h2=>?_) (fun h2=>?_)<;>rw [h2]<;>simp only [D5C,D5B] at h2
 case' refine_1.refine_1 =>
  conv=>whnf
  refine B8 (fun h3=>?_) (fun h3=>?_)<;>rw [h3]<;>simp only [D5C,D5B] at h3
 case' refine_1.refine_1.refine_1 =>
  have hi':i<min l.length 2:=by omega
  have hS:=hst (by omega)
  have m1:=C7 (l.getD (i:Int).toNat default).kind (n:=5) (by decide)
  have m2:=C7 (l.getD (i:Int).toNat default).amount (n:=L) (by omega)
  have w1:IntKind.i64.wrap (1+B5 (l.getD (i:Int).toNat default).kind 5)=1+B5 (l.getD (i:Int).toNat default).kind 5:=A5 (by omega) (by omega)
  have w2:IntKind.i64.wrap (1+B5 (l.getD (i:Int).toNat default).amount L)=1+B5 (l.getD (i:Int).toNat default).amount L:=A5 (by omega) (by omega)
  have w3:IntKind.i64.wrap (L - (1+B5 (l.getD (i:Int).toNat default).amount L))=L - (1+B5 (l.getD (i:Int).toNat default).amount L):=A5 (by omega) (by omega)
  have n1:=fun s=>Z8 (l.getD (i:Int).toNat default).kind 5 (by decide) (by decide) s
  have n2:=fun s=>O2 (l.getD (i:Int).toNat default).amount L (by omega) (by omega) s
  unfold A3M B1z at hS
  rw [if_pos h3] at hS
  generalize B5 (l.getD (i:Int).toNat default).kind 5=K at *
  generalize B5 (l.getD (i:Int).toNat default).amount L=M at *
  conv=>whnf
  refine ⟨[16,17],[4,5,11,13],List.range 18,by kernel_rfl,?_⟩;conv=>whnf
  refine E4 ?_
  refine ⟨_,fun s _=>⟨rfl,rfl⟩,?_⟩;conv=>whnf
  refine ⟨_,fun s _=>F2 (n1 s),?_⟩;conv=>whnf
  refine E4 ?_
  refine ⟨_,fun s _=>⟨rfl,rfl⟩,?_⟩;conv=>whnf
  refine ⟨_,fun s _=>F2 (n2 s),?_⟩;conv=>whnf
  rw [w1,w2]
  refine B8 (fun h4=>?_) (fun h4=>?_)<;>rw [h4]<;>simp only [D5C,D5B] at h4
  ·rw [if_pos h4] at hS;conv=>whnf
   refine E1.app (q:=r73) (y:=(⟨1+K,1+M⟩:Pay)) rfl rfl rfl rfl rfl rfl (by show (O.length+1) * 16≤140737488355328;omega) hc (fun sv' s' hc'=>?_);conv=>whnf
   rw [w3]
   refine F6 ?_
   exact nx hi' ⟨sv',by rw [B4 (by omega),hS1,hS],by rw [hS1,hS];exact hc'⟩
  ·rw [if_neg h4] at hS;conv=>whnf
   refine F6 ?_
   exact nx hi' ⟨sv,by rw [B4 (by omega),hS1,hS],by rw [hS1,hS];exact hc⟩
 all_goals
  have hend:=hfin (by first | exact .inl (by omega) | exact .inr (.inl (by omega)) | exact .inr (.inr (by omega)))
  subst hend
  have m5:=fun s=>Z8 (l.length:Int) 5 (by decide) (by decide) s
  have m6:=C7 (l.length:Int) (n:=5) (by decide)
  have w5:IntKind.i64.wrap (1+B5 (l.length:Int) 5)=1+B5 (l.length:Int) 5:=A5 (by omega) (by omega)
  simp only at hP
  rw [hP]
  generalize B5 (l.length:Int) 5=K at *
  conv=>whnf
  refine B8 (fun h6=>?_) (fun h6=>?_)<;>rw [h6]<;>simp only [D5C,D5B] at h6
  ·rw [if_pos h6];conv=>whnf
   refine I2 (m5 _) ?_
   rw [w5]
   refine E1.app (q:=r73) (y:=(⟨1+K,L⟩:Pay)) rfl rfl rfl rfl rfl rfl (by show (O.length+1) * 16≤140737488355328;omega) hc (fun sv' s' hc'=>?_);conv=>whnf
   exact hc'
  ·rw [if_neg h6];conv=>whnf
   exact hc
theorem B2b (items:List Ab.Item) (adds:List Add) (hi:items.length≤9223372036854775807) (st:St) :
  S P 55 [A8 4 E5 items,A8 2 A4U adds] st fun v st'=>v=.tuple [A8 3 H7 (X2 items adds).1,eI (X2 items adds).2]∧st'=st:=by
 have hB:X2 items adds=if adds.length<1∨adds.length>1000 then ([],2) else if (adds.any A0P)=true then ([],2) else if (adds.any fun x=>decide (P2 items x.sku<0))=true then ([],7) else (adds.map (K1 items),0):=rfl
 refine S.post (post:=fun v s'=>(∃ e,X2 items adds=([],e)∧v=.tuple [.emp,eI e]∧E6 st s')∨(∃ sv,X2 items adds=(adds.map (K1 items),0)∧v=.tuple [sv,eI 0]∧E1 137 3 H7 (adds.map (K1 items)) st sv s')) ?_ (fun v s' hv=>⟨_,st,⟨rfl,rfl⟩,by
  rcases hv with ⟨e,h1,rfl,h2⟩ | ⟨sv,h1,rfl,h2⟩
  ·rw [h1];exact (A7.tuple (A7.cons (I0 3 _) (A7.keep _ _)) rfl).trans (h2.shift _)
  ·rw [h1];exact A7.tuple (A7.cons h2.shift (A7.keep _ _)) rfl⟩)
 refine F1 [] Tryz.func55 ?_
 refine B8 (fun h1=>?_) (fun h1=>?_)<;>rw [h1]<;>simp only [D5C,D5B] at h1
 ·rw [if_pos (.inl (by omega))] at hB;conv=>whnf
  exact .inl ⟨2,hB,rfl,E6.refl _⟩
 conv=>whnf
 refine B8 (fun h2=>?_) (fun h2=>?_)<;>rw [h2]<;>simp only [D5C,D5B] at h2
 ·rw [if_pos (.inr (by omega))] at hB;conv=>whnf
  exact .inl ⟨2,hB,rfl,E6.refl _⟩
 rw [if_neg (by omega)] at hB;conv=>whnf
 refine lp adds.length [0,1,6] (fun i vs t=>(∀ j,j<i→A0P (adds.getD j default)=false)∧vs=[A8 4 E5 items,A8 2 A4U adds,eI i]∧t=st) ?_ ?_
 ·conv=>whnf
  exact ⟨fun j hj=>absurd hj (by omega),rfl,rfl⟩
 rintro i vs t hi' ⟨hno,rfl,rfl⟩
 conv=>whnf
 cases h3:decide ((i:Int)<(adds.length:Int))
 case true =>
  have hi2:=D6 h3
  have hbad:A0P (adds.getD (i:Int).toNat default)=true→X2 items adds=([],2):=fun h=>by
   rw [if_pos (D7m.2 ⟨_,A6 hi2,h⟩)] at hB;exact hB
  conv=>whnf
  refine E4 ?_
  refine B8 (fun h4=>?_) (fun h4=>?_)<;>rw [h4]
  ·conv=>whnf
   exact .inl ⟨2,hbad (by unfold A0P;rw [h4];rfl),rfl,E6.refl _⟩
  conv=>whnf
  refine E4 ?_
  refine B8 (fun h5=>?_) (fun h5=>?_)<;>rw [h5]
  ·conv=>whnf
   exact .inl ⟨2,hbad (by unfold A0P;rw [h5,D6q]),rfl,E6.refl _⟩
  conv=>whnf
  refine F6 ?_
  exact nx hi2 ⟨G6 hno (show A0P (adds.getD (i:Int).toNat default)=false by unfold A0P;rw [h4,h5];rfl),by rw [B4 (by omega)],rfl⟩
 obtain rfl:=C2 h3 hi'
 rw [if_neg (by
  rw [D6B,D6F]
  intro x hx
  obtain ⟨j,hj,rfl⟩:=D3 hx
  rw [hno j hj];simp)] at hB
 conv=>whnf
 refine lp adds.length [0,1,7,8] (fun i vs s=>∃ sv,(∀ j,j<i→(fun x:Add=>decide (P2 items x.sku<0)) (adds.getD j default)=false)∧vs=[A8 4 E5 items,A8 2 A4U adds,sv,eI i]∧E1 137 3 H7 ((adds.take i).map (K1 items)) t sv s) ?_ ?_
 ·conv=>whnf
  exact ⟨.emp,fun j hj=>absurd hj (by omega),rfl,E1.start _ _ _ _⟩
 rintro i vs s hi2 ⟨sv,hno2,rfl,hc⟩
 conv=>whnf
 cases h4:decide ((i:Int)<(adds.length:Int))
 case false =>
  obtain rfl:=C2 h4 hi2
  rw [D5L] at hc
  rw [if_neg (by
   rw [D6B,D6F]
   intro x hx
   obtain ⟨j,hj,rfl⟩:=D3 hx
   have:=hno2 j hj
   simp only at this
   rw [this];simp)] at hB
  conv=>whnf
  exact .inr ⟨sv,hB,rfl,hc⟩
 have hi3:=D6 h4
 have hF:=fun u=>B4N items (adds.getD (i:Int).toNat default).sku hi u
 have hln:((adds.take i).map (K1 items)).length=i:=by rw [D5F,D5K];omega
 have htk:(adds.take (i+1)).map (K1 items)=(adds.take i).map (K1 items)++[K1 items (adds.getD (i:Int).toNat default)]:=by rw [K6 hi3,D6i];rfl
 have hrng:=A9h (fun x:Ab.Item=>x.sku.toList==(adds.getD (i:Int).toNat default).sku.toList) items
 have hAL:K1 items (adds.getD (i:Int).toNat default)=⟨(adds.getD (i:Int).toNat default).sku,(adds.getD (i:Int).toNat default).qty,(items.getD (P2 items (adds.getD (i:Int).toNat default).sku).toNat default).price⟩:=rfl
 have hno3:=fun h=>G6 (q:=fun j=>(fun x:Add=>decide (P2 items x.sku<0)) (adds.getD j default)=false) hno2 h
 have hpos:(fun x:Add=>decide (P2 items x.sku<0)) (adds.getD (i:Int).toNat default)=true→X2 items adds=([],7):=fun h=>by
  rw [if_pos (D7m.2 ⟨_,A6 hi3,h⟩)] at hB;exact hB
 have hf0:P2 items (adds.getD (i:Int).toNat default).sku=P2 items (adds.getD i default).sku:=rfl
 simp only at hpos hno3
 rw [←hf0] at hno3
 generalize hfv:P2 items (adds.getD (i:Int).toNat default).sku=FV at hF hpos hno3 hAL
 have hrng2 : -1≤FV∧FV<items.length:=by rw [←hfv];exact hrng
 conv=>whnf
 refine E4 ?_
 refine I2 (hF _) ?_
 refine B8 (fun h5=>?_) (fun h5=>?_)<;>rw [h5]
 ·conv=>whnf
  exact .inl ⟨7,hpos h5,rfl,hc.sup⟩
 have h5':=D5E h5
 conv=>whnf
 refine ⟨[17,18],[],List.range 20,by kernel_rfl,?_⟩;conv=>whnf
 refine E4 ?_
 refine E4 ?_
 refine E4 ?_
 refine E1.app (y:=K1 items (adds.getD (i:Int).toNat default)) (q:=C3Q) rfl rfl rfl rfl rfl (by rw [hAL];rfl) (by rw [hln];show (i+1) * 32≤140737488355328;omega) hc (fun sv' t' hc'=>?_);conv=>whnf
 refine F6 ?_
 exact nx hi3 ⟨sv',hno3 h5,by rw [B4 (by omega)],by rw [htk];exact hc'⟩
def A1g (x:Add):Add:=⟨A1q (A2N x.sku),1+B5 x.qty 9⟩
def J1 (l:List Add):List Add:=if l.length=0 then [⟨⟨#[97]⟩,2⟩] else (l.take 6).map A1g
theorem B8f (l:List Add) (st:St):S P 54 [A8 2 A4U l] st fun v st'=>v=A8 2 A4U (J1 l)∧st'=st:=by
 refine S.post (post:=fun v s=>(l.length≠0∧E1 57 2 A4U ((l.take 6).map A1g) st v s)∨(l.length=0∧s=st∧∃ F:Nat→AV,F 0=A4U ⟨⟨#[97]⟩,2⟩∧v=.arr 2 1 F)) ?_ (fun v s hv=>⟨_,st,⟨rfl,rfl⟩,by
  unfold J1
  rcases hv with ⟨h,hc⟩ | ⟨h,rfl,F,hF,rfl⟩
  ·rw [if_neg h];exact hc.shift
  ·rw [if_pos h]
   exact A7.arr fun i hi=>by
    have:i=0:=by omega
    subst this;exact hF⟩)
 refine F1 [] Tryz.func54 ?_
 refine lp (min l.length 6) [0,3,4] (fun i vs s=>∃ sv,vs=[A8 2 A4U l,sv,eI i]∧E1 57 2 A4U ((l.take i).map A1g) st sv s) ?_ ?_
 ·conv=>whnf
  exact ⟨.emp,rfl,E1.start _ _ _ _⟩
 rintro i vs s hi ⟨sv,rfl,hc⟩
 have hfin:i=min l.length 6→(l.take i).map A1g=(l.take 6).map A1g:=fun e=>by
  rcases Nat.le_total l.length 6 with h | h
  ·rw [show i=l.length by omega,D5L,D7t h]
  ·rw [show i=6 by omega]
 have hlen:((l.take i).map A1g).length=i:=by rw [D5F,D5K];omega
 conv=>whnf
 refine B8 (fun h1=>?_) (fun h1=>?_)<;>rw [h1]<;>simp only [D5C,D5B] at h1
 case' refine_1 =>
  conv=>whnf
  refine B8 (fun h2=>?_) (fun h2=>?_)<;>rw [h2]<;>simp only [D5C,D5B] at h2
 case' refine_1.refine_1 =>
  have hi':i<min l.length 6:=by omega
  have htk:(l.take (i+1)).map A1g=(l.take i).map A1g++[A1g (l.getD (i:Int).toNat default)]:=A1Q (by omega) A1g
  have hm:=C7 (l.getD (i:Int).toNat default).qty (n:=9) (by decide)
  have hw:IntKind.i64.wrap (1+B5 (l.getD (i:Int).toNat default).qty 9)=1+B5 (l.getD (i:Int).toNat default).qty 9:=A5 (by omega) (by omega)
  conv=>whnf
  refine ⟨[16,17],[],List.range 19,by kernel_rfl,?_⟩;conv=>whnf
  refine E4 ?_
  refine cqW (B1B (l.getD (i:Int).toNat default).sku _) ?_
  refine cqW (C4n (A2N (l.getD (i:Int).toNat default).sku) _) ?_
  refine E4 ?_
  refine cqW (Z8 (l.getD (i:Int).toNat default).qty 9 (by decide) (by decide) _) ?_
  refine E1.app (q:=r57) (y:=A1g (l.getD (i:Int).toNat default)) rfl rfl rfl rfl rfl (by show AV.agg [_,AV.int _ (IntKind.i64.wrap (1+B5 (l.getD (i:Int).toNat default).qty 9))]=_;rw [hw];rfl) (by rw [hlen];show (i+1) * 24≤140737488355328;omega) hc (fun sv' s' hc'=>?_);conv=>whnf
  refine F6 ?_
  exact nx hi' ⟨sv',by rw [B4 (by omega)],by rw [htk];exact hc'⟩
 all_goals
  have hend:=hfin (by omega)
  rw [hend] at hc hlen
  rcases hc with ⟨hn,rfl,rfl⟩ | ⟨hn,b,g,hb,rfl,rfl,hg⟩
 case' refine_1.refine_2.inl | refine_2.inl =>
  conv=>whnf
  exact .inr ⟨by omega,rfl,_,rfl,rfl⟩
 case' refine_1.refine_2.inr | refine_2.inr =>
  have hz:(((((l.take 6).map A1g).length:Nat):Int)==0)=false:=by rw [D6l];omega
  conv=>whnf
  rw [hz];conv=>whnf
  exact .inl ⟨by omega,.inr ⟨hn,b,g,hb,rfl,rfl,hg⟩⟩
end Go.Proofs.YtaapofnkmpiknaaGreat
namespace Go.Ab
open Go
theorem C1p {w:World} {st st':St} (h:∀ b,st b=none↔st' b=none):A3z w st=A3z w st':=by
 funext a
 unfold A3z
 cases h1:st a.block with
 | none=>rw [(h _).1 h1]
 | some x =>
  cases h2:st' a.block with
  | none=>rw [(h _).2 h2] at h1;cases h1
  | some y=>rfl
theorem A7.cellG {vs:List AV} {st st2:St} {a i:Nat} {y:K8} {sv v' w':AV} {pre post:List AV} (h:A7 [sv] st [v'] st2) (hy:st a=some y) (hy2:st2 a=some y) (hi:i<y.n)
  (hf:cellsOf (y.f i)=pre++sv::post) (hw:cellsOf w'=pre++v'::post) (h1:v'.one=true):A7 vs st vs (upd st2 a { y with f:=I1 y.f i w' }):=fun w cs hS hR=>by
 obtain ⟨ds,hok⟩:=hS a y hy
 obtain ⟨c,hc1,hc2⟩:=hok.cell i pre.length sv hi (by rw [hf];show (pre++sv::post)[pre.length]?=some sv;simp)
 obtain ⟨hS2,hR2,hE⟩:=h w #[c] hS ⟨rfl,fun k z c' hz hc'=>by
  cases k with
  | zero=>simp at hz hc';subst hz;subst hc';exact hc2
  | succ k=>simp at hz⟩
 have hv:M0 w st2 v' c:=hR2.2 0 v' c rfl rfl
 have e:A3z w (upd st2 a { y with f:=I1 y.f i w' })=A3z w st2:=C1p fun b=>by
  by_cases eb:b=a
  ·subst eb;rw [A0,hy2];constructor<;>(intro h0;cases h0)
  ·rw [A9 eb]
 have hrep:∀ v c,M0 w st2 v c→M0 w (upd st2 a { y with f:=I1 y.f i w' }) v c:=fun v c hv=>by
  show Rep (A3z w _) _ _ _
  rw [e];exact hv
 refine ⟨fun b x hb=>?_,⟨hR.1,fun k y c hy hc=>hrep _ _ (hE.rep (hR.2 k y c hy hc))⟩,⟨hE.os,hE.tape,hE.output,hE.size,fun b hb hn=>⟨(hE.blk b hb hn).1,?_⟩,hE.szm⟩⟩
 ·by_cases eb:b=a
  ·subst eb
   rw [A0] at hb;cases hb
   obtain ⟨ds2,hok2⟩:=hS2 b y hy2
   have hds:ds2=ds:=by
    have h3:=hok2.heap
    rw [hok.heap] at h3
    cases h3;rfl
   subst hds
   have hlen:=hok2.len i hi
   have hone:=hok2.one i hi
   rw [hf] at hlen hone
   refine ⟨ds2,hok2.heap,hok2.size,fun k hk=>?_,fun k hk=>?_,fun k m z hk hz=>?_⟩
   ·by_cases ek:k=i
    ·subst ek
     show (cellsOf (I1 y.f k _ k)).length=y.e
     unfold I1;rw [if_pos rfl,←hlen]
     show (cellsOf w').length=(pre++sv::post).length
     rw [hw]
     simp
    ·show (cellsOf (I1 y.f i _ k)).length=y.e
     unfold I1;rw [if_neg ek];exact hok2.len k hk
   ·by_cases ek:k=i
    ·subst ek
     show (cellsOf (I1 y.f k _ k)).all AV.one=true
     unfold I1;rw [if_pos rfl]
     have hone':(pre++sv::post).all AV.one=true:=hone
     show (cellsOf w').all AV.one=true
     rw [hw]
     simp only [List.all_append,List.all_cons,D5G] at hone' ⊢
     exact ⟨hone'.1,h1,hone'.2.2⟩
    ·show (cellsOf (I1 y.f i _ k)).all AV.one=true
     unfold I1;rw [if_neg ek];exact hok2.one k hk
   ·have hz:(cellsOf (I1 y.f i w' k))[m]?=some z:=hz
    unfold I1 at hz
    by_cases ek:k=i
    ·subst ek
     rw [if_pos rfl] at hz
     have hz:(pre++v'::post)[m]?=some z:=by rw [←hw];exact hz
     by_cases em:m=pre.length
     ·subst em
      simp at hz
      subst hz
      exact ⟨c,hc1,hrep _ _ hv⟩
     ·have e3:(pre++sv::post)[m]?=some z:=by
       rw [←hz]
       by_cases hm:m<pre.length
       ·rw [D5W hm,D5W hm]
       ·rw [D5Y (by omega),D5Y (by omega)]
        obtain ⟨q,hq⟩:∃ q,m - pre.length=q+1:=⟨m - pre.length - 1,by omega⟩
        rw [hq];rfl
      obtain ⟨c',k1,k2⟩:=hok2.cell k m z hk (by rw [hf];exact e3)
      exact ⟨c',k1,hrep _ _ k2⟩
    ·rw [if_neg ek] at hz
     obtain ⟨c',k1,k2⟩:=hok2.cell k m z hk hz
     exact ⟨c',k1,hrep _ _ k2⟩
  ·rw [A9 eb] at hb
   obtain ⟨ds2,hok2⟩:=hS2 b x hb
   exact ⟨ds2,hok2.heap,hok2.size,hok2.len,hok2.one,fun k m z hk hz=>by
    obtain ⟨c',k1,k2⟩:=hok2.cell k m z hk hz
    exact ⟨c',k1,hrep _ _ k2⟩⟩
 ·have:=(hE.blk b hb hn).2
  have eb:b≠a:=fun h=>by rw [h,hy] at hn;cases hn
  rw [A9 eb];exact this
theorem A7.cell {vs:List AV} {st st2:St} {a i:Nat} {y:K8} {sv v':AV} {pre post:List AV} (h:A7 [sv] st [v'] st2) (hy:st a=some y) (hy2:st2 a=some y) (hi:i<y.n)
  (hf:y.f i=.agg (pre++sv::post)) (h1:v'.one=true):A7 vs st vs (upd st2 a { y with f:=I1 y.f i (.agg (pre++v'::post)) }) :=
 A7.cellG h hy hy2 hi (by rw [hf];rfl) rfl h1
end Go.Ab
namespace Go.Proofs.YtaapofnkmpiknaaGreat
open Go Go.Ab
attribute [local irreducible] upd del
theorem A7.pre {a b:List AV} {s t:St} (h:A7 a s b t):∀ l:List AV,A7 (l++a) s (l++b) t
 | []=>h
 | x::l=>A7.cons (A7.keep [x] s) (A7.pre h l)
abbrev B4m (l:List A2n):Nat→AV:=fun k=>W4 (l.getD k default)
theorem ROut.put {ty e n b:Nat} {fo:Nat→AV} {s t:St} {sv:AV} {y:K8} (h:ROut E6 ty e fo n (upd s b y) sv t) (y':K8):ROut E6 ty e fo n (upd s b y') sv (upd t b y'):=by
 have:=ROut.write (y':=y') J3 h (A0 ..)
 rwa [B7] at this
theorem B1C {l:List A2n} (h:l.length=0):P5 l=[⟨⟨[],[]⟩,2⟩]:=if_pos h
theorem B1D {l:List A2n} (h:l.length≠0):P5 l=(l.take 3).map Z9:=if_neg h
theorem C6f {l:List A2n} {i:Nat} (hi:i<min l.length 3):((l.take 3).map Z9).getD i default=Z9 (l.getD i default):=by
 rw [D5A,D6y,D5O (by omega),D5I (by omega),D5A,D5I (by omega)];rfl
set_option maxHeartbeats 80000000 in
theorem B6m (p:B1) (id:Int) (st:St):S P 156 [B9 p,eI id] st fun v st'=>v=B9 (A2d p id)∧st'=st:=by
 refine S.post (post:=fun v s=>(∃ W,v=.agg W∧E6 st s∧F0 W (cellsOf (B9 (A2d p id))))∨∃ (pre:List AV) (sv fin:AV) (base:St),v=.agg (pre++[sv,fin])∧A7 [sv] s [A8 3 W4 (P5 p.parts)] base∧E6 st base∧F0 (pre++[A8 3 W4 (P5 p.parts),fin]) (cellsOf (B9 (A2d p id)))) ?_ (fun v s h=>⟨_,st,⟨rfl,rfl⟩,by
   rcases h with ⟨W,h1,h3,h4⟩ | ⟨pre,sv,fin,base,h1,h2,h3,h4⟩
   ·rw [h1];exact (Le.shift (Le.agg h4) _).trans (h3.shift _)
   ·rw [h1]
    refine (A7.agg (A7.pre (A7.cons h2 (A7.keep [fin] _)) pre)).trans ?_
    exact (Le.shift (Le.agg h4) _).trans (h3.shift _)⟩)
 have hScope:=fun s=>B6s p.scope s
 obtain ⟨SC,hSC⟩:∃ SC,SC=Q2 p.scope:=⟨_,rfl⟩
 rw [←hSC] at hScope
 have hId:=fun s=>D2W id s
 obtain ⟨I,hI⟩:∃ I,I=idN id:=⟨_,rfl⟩
 rw [←hI] at hId
 have hPr:=fun s=>Z8 p.prio 5 (by decide) (by decide) s
 obtain ⟨PR,hPR⟩:∃ PR,PR=B5 p.prio 5:=⟨_,rfl⟩
 rw [←hPR] at hPr
 have hKd:=fun s=>Z8 (IntKind.i64.wrap (p.kind - 1)) 7 (by decide) (by decide) s
 have hkm:=C7 (IntKind.i64.wrap (p.kind - 1)) (n:=7) (by decide)
 have hkw:IntKind.i64.wrap (1+B5 (IntKind.i64.wrap (p.kind - 1)) 7)=A3w p:=A5 (by omega) (by omega)
 have hK:=A6d p
 have hP:A2d p id=P3 p id (A3w p):=rfl
 rw [hP]
 generalize A3w p=K at hK hkw ⊢
 clear hP
 generalize B5 (IntKind.i64.wrap (p.kind - 1)) 7=KD at hKd hkw
 obtain ⟨G,hG⟩:∃ G,G=A2c p:=⟨_,rfl⟩
 obtain ⟨C,hC⟩:∃ C,C=A3v p:=⟨_,rfl⟩
 obtain ⟨L,hL⟩:∃ L,L=A3f p:=⟨_,rfl⟩
 have wr:IntKind.i64.wrap (1+B5 p.rate 10000)=1+B5 p.rate 10000:=by have:=C7 p.rate (n:=10000) (by decide);exact A5 (by omega) (by omega)
 have wa:IntKind.i64.wrap (1+B5 p.amount 900)=1+B5 p.amount 900:=by have:=C7 p.amount (n:=900) (by decide);exact A5 (by omega) (by omega)
 have wb:IntKind.i64.wrap (1+B5 p.buy 3)=1+B5 p.buy 3:=by have:=C7 p.buy (n:=3) (by decide);exact A5 (by omega) (by omega)
 have wg:IntKind.i64.wrap (1+B5 p.get 2)=1+B5 p.get 2:=by have:=C7 p.get (n:=2) (by decide);exact A5 (by omega) (by omega)
 have hT5:=fun s=>A9Q p.tiers 5000 (by decide) (by decide) s
 obtain ⟨TS,hTS⟩:∃ TS,TS=P6 p.tiers 5000:=⟨_,rfl⟩
 rw [←hTS] at hT5
 have hT6:=fun s=>A9Q p.tiers 5 (by decide) (by decide) s
 obtain ⟨TU,hTU⟩:∃ TU,TU=P6 p.tiers 5:=⟨_,rfl⟩
 rw [←hTU] at hT6
 have hA3:=fun s=>O2 p.amount 3000 (by decide) (by decide) s
 obtain ⟨A3,hA⟩:∃ A3,A3=B5 p.amount 3000:=⟨_,rfl⟩
 rw [←hA] at hA3
 refine F1 [2] Tryz.func156 ?_
 intro b4 hb4;conv=>whnf
 refine ⟨[16,17],[1,3,5,8,9,11,13,14],List.range 18,by kernel_rfl,?_⟩;conv=>whnf
 refine ⟨_,fun s _=>F2 (hId s),?_⟩;conv=>whnf
 refine ⟨_,fun s _=>⟨rfl,rfl⟩,?_⟩;conv=>whnf
 refine ⟨_,fun s _=>F2 (hKd s),?_⟩;conv=>whnf
 refine ⟨_,fun s _=>⟨rfl,rfl⟩,?_⟩;conv=>whnf
 refine ⟨_,fun s _=>F2 (hPr s),?_⟩;conv=>whnf
 refine ⟨_,fun s _=>⟨rfl,rfl⟩,?_⟩;conv=>whnf
 refine ⟨_,fun s _=>⟨rfl,rfl⟩,?_⟩;conv=>whnf
 refine ⟨_,fun s _=>F2 (hScope s),?_⟩;conv=>whnf
 intro b5 hb5
 have hne:b4≠b5:=fun e=>by subst e;rw [A0] at hb5;cases hb5
 conv=>whnf
 refine stU (A0 ..) rfl ?_
 rw [B7,hkw]
 have hst:∀ Y:K8,E6 st (upd (upd st b4 ⟨206,15,1,fun _=>H2 B8m.zero⟩) b5 Y):=fun Y=>((E6.refl st).upd hb4).upd hb5
 conv=>whnf
 refine I2 (B1B _ _) ?_
 refine I2 (Z8 _ 3 (by decide) (by decide) _) ?_
 cases hg:(B5 (A2N p.group) 3==1)
 case' true =>
  have hgv:(⟨#[103]⟩:C8)++B2m ([]++[IntKind.u8.wrap (48+IntKind.u8.wrap (B5 p.group.size 2))])=G:=by rw [hG,B2v];exact (if_pos (by simpa using hg)).symm
  conv=>whnf
  refine I2 (Z8 _ 2 (by decide) (by decide) _) ?_
  rw [hgv]
  refine stU (A0 ..) (A4 ..) ?_
  rw [B7]
 case' false =>
  have hG0:(⟨#[]⟩:C8)=G:=by rw [hG];exact (if_neg (by simpa using hg)).symm
 all_goals
  conv=>whnf
  refine I2 (B1B _ _) ?_
  refine I2 (Z8 _ 3 (by decide) (by decide) _) ?_
  cases hcd:(B5 (A2N p.code) 3==1)
  case' true =>
   have hcv:A5o p.code.size=C:=by rw [hC];exact (if_pos (by simpa using hcd)).symm
   conv=>whnf
   refine I2 (C2N _ _) ?_
   rw [hcv]
   refine stU (A0 ..) (A4 ..) ?_
   rw [B7]
  case' false =>
   have hC0:(⟨#[]⟩:C8)=C:=by rw [hC];exact (if_neg (by simpa using hcd)).symm
  all_goals
   conv=>whnf
   refine I2 (O2 _ 3 (by decide) (by decide) _) ?_
   cases hl:(B5 p.least 3==1)
   case' true =>
    have hlv:B5 p.least 9000=L:=by rw [hL];exact (if_pos (by simpa using hl)).symm
    conv=>whnf
    refine I2 (O2 _ 9000 (by decide) (by decide) _) ?_
    rw [hlv]
    refine stU (A0 ..) (A4 ..) ?_
    rw [B7]
   case' false =>
    have hL0:(0:Int)=L:=by rw [hL];exact (if_neg (by simpa using hl)).symm
   all_goals
    conv=>whnf
    refine ldV (A0 ..) rfl (by omega) (A4 ..) ?_
    rcases (show K=1∨K=2∨K=3∨K=4∨K=5∨K=6∨K=7 by omega) with rfl | rfl | rfl | rfl | rfl | rfl | rfl
    ·rw [show cellsOf (B9 (P3 p id 1))=[eS (I),eI 1,eI (PR),eS (G),eS (C),eB p.closes,C9 (SC).skus,C9 (SC).cats,eI (L),eI (1+B5 p.rate 10000),eI 0,eI 0,eI 0,A8 3 W4 [],A8 3 R9 []] from by rw [hI,hPR,hG,hC,hL,hSC];rfl]
     (try subst hG0);(try subst hC0);(try subst hL0)
     conv=>whnf
     refine I2 (O2 _ 10000 (by decide) (by decide) _) ?_
     rw [wr]
     refine stU (A0 ..) (A4 ..) ?_
     rw [B7];conv=>whnf
     refine I4 (A0 ..) (A4 ..) ?_
     refine X8 (by rw [A9 hne];exact A0 ..) rfl ?_
     refine I4 (A0 ..) (A4 ..) ?_
     exact .inl ⟨_,rfl,(hst _).over hb4,F0.cons (Le.refl _) (F0.cons (Le.refl _) (F0.cons (Le.refl _) (F0.cons (Le.refl _) (F0.cons (Le.refl _) (F0.cons (Le.refl _) (F0.cons (Le.refl _) (F0.cons (Le.refl _) (F0.cons (Le.refl _) (F0.cons (Le.refl _) (F0.cons (Le.refl _) (F0.cons (Le.refl _) (F0.cons (Le.refl _) (F0.cons (Le.emp _ _) (F0.cons (Le.emp _ _) (F0.nil)))))))))))))))⟩
    ·rw [show cellsOf (B9 (P3 p id 2))=[eS (I),eI 2,eI (PR),eS (G),eS (C),eB p.closes,C9 (SC).skus,C9 (SC).cats,eI (L),eI 0,eI (1+B5 p.amount 900),eI 0,eI 0,A8 3 W4 [],A8 3 R9 []] from by rw [hI,hPR,hG,hC,hL,hSC];rfl]
     (try subst hG0);(try subst hC0);(try subst hL0)
     conv=>whnf
     refine I2 (O2 _ 900 (by decide) (by decide) _) ?_
     rw [wa]
     refine stU (A0 ..) (A4 ..) ?_
     rw [B7];conv=>whnf
     refine I4 (A0 ..) (A4 ..) ?_
     refine X8 (by rw [A9 hne];exact A0 ..) rfl ?_
     refine I4 (A0 ..) (A4 ..) ?_
     exact .inl ⟨_,rfl,(hst _).over hb4,F0.cons (Le.refl _) (F0.cons (Le.refl _) (F0.cons (Le.refl _) (F0.cons (Le.refl _) (F0.cons (Le.refl _) (F0.cons (Le.refl _) (F0.cons (Le.refl _) (F0.cons (Le.refl _) (F0.cons (Le.refl _) (F0.cons (Le.refl _) (F0.cons (Le.refl _) (F0.cons (Le.refl _) (F0.cons (Le.refl _) (F0.cons (Le.emp _ _) (F0.cons (Le.emp _ _) (F0.nil)))))))))))))))⟩
    ·rw [show cellsOf (B9 (P3 p id 3))=[eS (I),eI 3,eI (PR),eS (G),eS (C),eB p.closes,C9 (SC).skus,C9 (SC).cats,eI (L),eI (1+B5 p.rate 10000),eI 0,eI (1+B5 p.buy 3),eI (1+B5 p.get 2),A8 3 W4 [],A8 3 R9 []] from by rw [hI,hPR,hG,hC,hL,hSC];rfl]
     (try subst hG0);(try subst hC0);(try subst hL0)
     conv=>whnf
     refine ⟨[13,15,17],[],List.range 18,by kernel_rfl,?_⟩;conv=>whnf
     refine cqW (O2 _ 10000 (by decide) (by decide) _) ?_
     rw [wr]
     refine cqW (Z8 _ 3 (by decide) (by decide) _) ?_
     rw [wb]
     refine cqW (Z8 _ 2 (by decide) (by decide) _) ?_
     rw [wg]
     refine stU (A0 ..) (A4 ..) ?_
     rw [B7];conv=>whnf
     refine stU (A0 ..) (A4 ..) ?_
     rw [B7];conv=>whnf
     refine stU (A0 ..) (A4 ..) ?_
     rw [B7];conv=>whnf
     refine I4 (A0 ..) (A4 ..) ?_
     refine X8 (by rw [A9 hne];exact A0 ..) rfl ?_
     refine I4 (A0 ..) (A4 ..) ?_
     exact .inl ⟨_,rfl,(hst _).over hb4,F0.cons (Le.refl _) (F0.cons (Le.refl _) (F0.cons (Le.refl _) (F0.cons (Le.refl _) (F0.cons (Le.refl _) (F0.cons (Le.refl _) (F0.cons (Le.refl _) (F0.cons (Le.refl _) (F0.cons (Le.refl _) (F0.cons (Le.refl _) (F0.cons (Le.refl _) (F0.cons (Le.refl _) (F0.cons (Le.refl _) (F0.cons (Le.emp _ _) (F0.cons (Le.emp _ _) (F0.nil)))))))))))))))⟩
    ·rw [show cellsOf (B9 (P3 p id 4))=[eS (I),eI 4,eI (PR),eS (G),eS (C),eB p.closes,C9 [],C9 [],eI (L),eI 0,eI (A3),eI 0,eI 0,A8 3 W4 (P5 p.parts),A8 3 R9 []] from by rw [hI,hPR,hG,hC,hL,hA];rfl];conv=>whnf
     refine I2 (hA3 _) ?_
     refine stU (A0 ..) (A4 ..) ?_
     rw [B7];conv=>whnf
     refine stU (A0 ..) (A4 ..) ?_
     rw [B7];conv=>whnf
     refine lp (min p.parts.length 3) [2,4,5,6] (fun i vs s=>∃ sv f,vs=[.fptr (B9 p) 0,.optr 15 b4 0 0,.optr 15 b5 0 0,eI i]∧f 0=.agg ([eS I,eI 4,eI PR,eS G,eS C,eB p.closes,.emp,.emp,eI L,eI 0,eI A3,eI 0,eI 0]++[sv,.emp])∧ROut E6 259 3 (B4m ((p.parts.take 3).map Z9)) i (upd (upd st b4 ⟨206,15,1,fun _=>H2 B8m.zero⟩) b5 ⟨206,15,1,f⟩) sv s) ?_ ?_
     ·conv=>whnf
      exact ⟨.emp,_,rfl,by (try rw [←hG0]);(try rw [←hC0]);(try rw [←hL0]);first | rfl | (rw [A4];rfl),ROut.start (E6.refl _) _ _ _⟩
     ·rintro i vs s hi ⟨sv,f,rfl,hf,hR⟩
      have hsup:=ROut.sup J3 hR
      have at5:s b5=some ⟨206,15,1,f⟩:=hsup b5 _ (A0 ..)
      have at4:s b4=some ⟨206,15,1,fun _=>H2 B8m.zero⟩:=hsup b4 _ (by rw [A9 hne];exact A0 ..)
      have n5:st b5=none:=by rw [A9 (Ne.symm hne)] at hb5;exact hb5
      conv=>whnf
      refine B8 (fun h1=>?_) (fun h1=>?_)<;>rw [h1]<;>simp only [D5C,D5B] at h1
      case' refine_1 =>
       conv=>whnf
       refine B8 (fun h2=>?_) (fun h2=>?_)<;>rw [h2]<;>simp only [D5C,D5B] at h2
      case refine_1.refine_1 =>
       have hi':i<min p.parts.length 3:=by omega
       have hsc2:=fun s=>B6s (p.parts.getD (i:Int).toNat default).scope s
       have hpa:=C6f hi'
       have hm2:=C7 (p.parts.getD (i:Int).toNat default).count (n:=2) (by decide)
       have wc:IntKind.i64.wrap (1+B5 (p.parts.getD (i:Int).toNat default).count 2)=1+B5 (p.parts.getD (i:Int).toNat default).count 2:=A5 (by omega) (by omega)
       have hpp:W4 (Z9 (p.parts.getD i default))=.agg [C9 (Q2 (p.parts.getD (i:Int).toNat default).scope).skus,C9 (Q2 (p.parts.getD (i:Int).toNat default).scope).cats,eI (1+B5 (p.parts.getD (i:Int).toNat default).count 2)]:=rfl
       generalize Q2 (p.parts.getD (i:Int).toNat default).scope=S2 at hsc2 hpp
       rcases ROut.head hR with rfl | ⟨bp,rfl⟩
       all_goals
        conv=>whnf
        refine ⟨[19,21],[15],List.range 22,by kernel_rfl,?_⟩;conv=>whnf
        refine I4 at5 hf ?_
        refine E4 ?_
        refine cqW (hsc2 _) ?_
        refine E4 ?_
        refine ⟨_,fun s _=>F2 (Z8 _ 2 (by decide) (by decide) s),?_⟩;conv=>whnf
        rw [wc]
        refine ⟨_,⟨rfl,rfl⟩,?_⟩;conv=>whnf
        refine ROut.app (q:=C8m) J3 rfl rfl rfl rfl rfl (f:=B4m ((p.parts.take 3).map Z9)) (by show _=W4 _;rw [hpa,hpp];rfl) (by show (i+1) * 56≤140737488355328;omega) hR (fun sv' t2 hR2=>?_)
        have at5':t2 b5=some ⟨206,15,1,f⟩:=ROut.sup J3 hR2 b5 _ (A0 ..)
        rcases ROut.head hR2 with rfl | ⟨bp',rfl⟩
        all_goals
         conv=>whnf
         refine X8 at5' hf ?_
         refine F6 ?_
         exact nx hi' ⟨_,_,by rw [B4 (by omega)],(by rw [A4];rfl),ROut.put hR2 _⟩
      all_goals
       have hie:i=min p.parts.length 3:=by omega
       obtain ⟨s0,hcol,hss⟩:=hR
       rcases hcol with ⟨h0,rfl,rfl⟩ | ⟨h0,bp,g,hbp,rfl,rfl,hgg⟩
       ·have hPP:=B1C (l:=p.parts) (by omega)
        subst h0
        rw [hPP];conv=>whnf
        refine I4 at5 hf ?_
        refine X8 at5 hf ?_
        refine I4 (A0 ..) (A4 ..) ?_
        refine X8 (by rw [A9 hne];exact at4) rfl ?_
        refine I4 (A0 ..) (A4 ..) ?_
        exact .inl ⟨_,rfl,((((E6.refl st).upd hb4).upd hb5).trans hss |>.over n5).over hb4,F0.cons (Le.refl _) (F0.cons (Le.refl _) (F0.cons (Le.refl _) (F0.cons (Le.refl _) (F0.cons (Le.refl _) (F0.cons (Le.refl _) (F0.cons (Le.emp _ _) (F0.cons (Le.emp _ _) (F0.cons (Le.refl _) (F0.cons (Le.refl _) (F0.cons (Le.refl _) (F0.cons (Le.refl _) (F0.cons (Le.refl _) (F0.cons (Le.arr1 (F0.cons (Le.emp _ _) (F0.cons (Le.emp _ _) (F0.cons (Le.refl _) F0.nil))) rfl) (F0.cons (Le.emp _ _) (F0.nil)))))))))))))))⟩
       ·have hPP:=B1D (l:=p.parts) (by omega)
        have hAP:A8 3 W4 (P5 p.parts)=.arr 3 i (B4m ((p.parts.take 3).map Z9)):=by unfold A8;rw [hPP,show ((p.parts.take 3).map Z9).length=i by rw [D5F,D5K];omega]
        have hR3:ROut E6 259 3 (B4m ((p.parts.take 3).map Z9)) i (upd (upd st b4 ⟨206,15,1,fun _=>H2 B8m.zero⟩) b5 ⟨206,15,1,f⟩) (.own 3 bp 0 i) s:=⟨_,.inr ⟨h0,bp,g,hbp,rfl,rfl,hgg⟩,hss⟩
        conv=>whnf
        refine I4 at5 hf ?_
        rw [show ((i:Int)==0)=false by rw [D6l];omega];conv=>whnf
        refine I4 at5 hf ?_
        refine X8 at4 rfl ?_
        refine I4 (A0 ..) (A4 ..) ?_
        obtain ⟨base,hsh,hsb⟩:=ROut.shift J3 (ROut.write J3 hR3 (b:=b4) (by rw [A9 hne];exact A0 ..))
        refine .inr ⟨[eS I,eI 4,eI PR,eS G,eS C,eB p.closes,.emp,.emp,eI L,eI 0,eI A3,eI 0,eI 0],.own 3 bp 0 i,.emp,base,rfl,by rw [hAP];exact hsh,((((E6.refl st).upd hb4).upd hb5).over hb4).trans hsb,F0.cons (Le.refl _) (F0.cons (Le.refl _) (F0.cons (Le.refl _) (F0.cons (Le.refl _) (F0.cons (Le.refl _) (F0.cons (Le.refl _) (F0.cons (Le.emp _ _) (F0.cons (Le.emp _ _) (F0.cons (Le.refl _) (F0.cons (Le.refl _) (F0.cons (Le.refl _) (F0.cons (Le.refl _) (F0.cons (Le.refl _) (F0.cons (Le.refl _) (F0.cons (Le.emp _ _) (F0.nil)))))))))))))))⟩
    ·rw [show cellsOf (B9 (P3 p id 5))=[eS (I),eI 5,eI (PR),eS (G),eS (C),eB p.closes,C9 (SC).skus,C9 (SC).cats,eI (L),eI 0,eI 0,eI 0,eI 0,A8 3 W4 [],A8 3 R9 (TS)] from by rw [hI,hPR,hG,hC,hL,hSC,hTS];rfl]
     (try subst hG0);(try subst hC0);(try subst hL0)
     conv=>whnf
     refine I2 (hT5 _) ?_
     refine stU (A0 ..) (A4 ..) ?_
     rw [B7];conv=>whnf
     refine I4 (A0 ..) (A4 ..) ?_
     refine X8 (by rw [A9 hne];exact A0 ..) rfl ?_
     refine I4 (A0 ..) (A4 ..) ?_
     exact .inl ⟨_,rfl,(hst _).over hb4,F0.cons (Le.refl _) (F0.cons (Le.refl _) (F0.cons (Le.refl _) (F0.cons (Le.refl _) (F0.cons (Le.refl _) (F0.cons (Le.refl _) (F0.cons (Le.refl _) (F0.cons (Le.refl _) (F0.cons (Le.refl _) (F0.cons (Le.refl _) (F0.cons (Le.refl _) (F0.cons (Le.refl _) (F0.cons (Le.refl _) (F0.cons (Le.emp _ _) (F0.cons (Le.refl _) (F0.nil)))))))))))))))⟩
    ·rw [show cellsOf (B9 (P3 p id 6))=[eS (I),eI 6,eI (PR),eS (G),eS (C),eB p.closes,C9 (SC).skus,C9 (SC).cats,eI (L),eI 0,eI 0,eI 0,eI 0,A8 3 W4 [],A8 3 R9 (TU)] from by rw [hI,hPR,hG,hC,hL,hSC,hTU];rfl]
     (try subst hG0);(try subst hC0);(try subst hL0)
     conv=>whnf
     refine I2 (hT6 _) ?_
     refine stU (A0 ..) (A4 ..) ?_
     rw [B7];conv=>whnf
     refine I4 (A0 ..) (A4 ..) ?_
     refine X8 (by rw [A9 hne];exact A0 ..) rfl ?_
     refine I4 (A0 ..) (A4 ..) ?_
     exact .inl ⟨_,rfl,(hst _).over hb4,F0.cons (Le.refl _) (F0.cons (Le.refl _) (F0.cons (Le.refl _) (F0.cons (Le.refl _) (F0.cons (Le.refl _) (F0.cons (Le.refl _) (F0.cons (Le.refl _) (F0.cons (Le.refl _) (F0.cons (Le.refl _) (F0.cons (Le.refl _) (F0.cons (Le.refl _) (F0.cons (Le.refl _) (F0.cons (Le.refl _) (F0.cons (Le.emp _ _) (F0.cons (Le.refl _) (F0.nil)))))))))))))))⟩
    ·rw [show cellsOf (B9 (P3 p id 7))=[eS (I),eI 7,eI (PR),eS (G),eS (C),eB false,C9 [],C9 [],eI (L),eI (1+B5 p.rate 10000),eI 0,eI 0,eI 0,A8 3 W4 [],A8 3 R9 []] from by rw [hI,hPR,hG,hC,hL];rfl]
     (try subst hG0);(try subst hC0);(try subst hL0)
     conv=>whnf
     refine I2 (O2 _ 10000 (by decide) (by decide) _) ?_
     rw [wr]
     refine stU (A0 ..) (A4 ..) ?_
     rw [B7];conv=>whnf
     refine stU (A0 ..) (A4 ..) ?_
     rw [B7];conv=>whnf
     refine stU (A0 ..) (A4 ..) ?_
     rw [B7];conv=>whnf
     refine I4 (A0 ..) (A4 ..) ?_
     refine X8 (by rw [A9 hne];exact A0 ..) rfl ?_
     refine I4 (A0 ..) (A4 ..) ?_
     exact .inl ⟨_,rfl,(hst _).over hb4,F0.cons (Le.refl _) (F0.cons (Le.refl _) (F0.cons (Le.refl _) (F0.cons (Le.refl _) (F0.cons (Le.refl _) (F0.cons (Le.refl _) (F0.cons (Le.emp _ _) (F0.cons (Le.emp _ _) (F0.cons (Le.refl _) (F0.cons (Le.refl _) (F0.cons (Le.refl _) (F0.cons (Le.refl _) (F0.cons (Le.refl _) (F0.cons (Le.emp _ _) (F0.cons (Le.emp _ _) (F0.nil)))))))))))))))⟩
theorem C5K (i:Nat) (h:i<6):Int.tmod (IntKind.i64.wrap (IntKind.i64.wrap ((i:Int) * 7)+3)) 10=C0C i:=by
 rw [A5 (x:=(i:Int) * 7) (by omega) (by omega),A5 (by omega) (by omega),D7p (by omega)];rfl
theorem B4J (l:List B1) (st:St):S P 101 [A8 15 B9 l] st fun v st'=>v=A8 15 B9 (N4 l)∧st'=st:=by
 refine A0M (ty:=206) ?_
 have hat:∀ i,i<6→Y0 l i=A2d (l.getD (i:Int).toNat default) (Int.tmod (IntKind.i64.wrap (IntKind.i64.wrap ((i:Int) * 7)+3)) 10):=fun i hi=>by rw [C5K i hi];rfl
 have hPl:N4 l=(List.range (min l.length 6)).map (Y0 l):=rfl
 rw [hPl]
 have hnext:=A5V (Y0 l)
 have hS:=fun i=>B6m (l.getD (i:Nat) default)
 generalize Y0 l=F at hat hnext ⊢
 refine F1 [] Tryz.func101 ?_
 refine lp (min l.length 6) [0,3,4] (fun i vs s=>∃ sv,vs=[A8 15 B9 l,sv,eI i]∧E1 206 15 B9 ((List.range i).map F) st sv s) ?_ ?_
 ·conv=>whnf
  exact ⟨.emp,rfl,E1.start _ _ _ _⟩
 ·rintro i vs s hi ⟨sv,rfl,hc⟩
  have hfin:i=min l.length 6→E1 206 15 B9 ((List.range (min l.length 6)).map F) st sv s:=fun e=>by rw [←e];exact hc
  have hlen:((List.range i).map F).length=i:=by rw [D5F,D6d]
  conv=>whnf
  refine B8 (fun h1=>?_) (fun h1=>?_)<;>rw [h1]<;>simp only [D5C,D5B] at h1
  ·conv=>whnf
   refine B8 (fun h2=>?_) (fun h2=>?_)<;>rw [h2]<;>simp only [D5C,D5B] at h2
   ·have hi':i<min l.length 6:=by omega
    have hF:=hat i (by omega)
    conv=>whnf
    refine E4 ?_
    refine B3 (hS (i:Int).toNat _ _) ?_
    generalize hid:Int.tmod (IntKind.i64.wrap (IntKind.i64.wrap ((i:Int) * 7)+3)) 10=ID at hF
    generalize A2d (l.getD (i:Int).toNat default) ID=Y at hF
    conv=>whnf
    refine E1.app (y:=Y) (q:=B8m) rfl rfl rfl rfl rfl (by rfl) (by rw [hlen];show (i+1) * 208≤140737488355328;omega) hc (fun sv' t' hc'=>?_);conv=>whnf
    refine F6 ?_
    refine nx hi' ⟨sv',by rw [B4 (by omega)],?_⟩
    rw [hnext,hF];exact hc'
   ·conv=>whnf
    exact hfin (by omega)
  ·conv=>whnf
   exact hfin (by omega)
abbrev A7t (l:List G5):Nat→AV:=fun i=>A0Y (l.getD i default)
def A2B (zs:Nat→List G5) (sv:Nat→AV):Nat→St→St→Prop
 | 0=>E6
 | k+1=>fun s t=>ROut (A2B zs sv k) 209 2 (A7t (zs k)) (zs k).length s (sv k) t
theorem A2p (zs:Nat→List G5) (sv:Nat→AV):∀ k,L3 (A2B zs sv k)
 | 0=>J3
 | k+1=>U5 (A2p zs sv k) _ _ _ _ _
theorem A9K {zs zs':Nat→List G5} {sv sv':Nat→AV}:∀ (k:Nat) {s t:St},(∀ j,j<k→zs j=zs' j∧sv j=sv' j)→A2B zs sv k s t→A2B zs' sv' k s t
 | 0,s,t,_,h=>h
 | k+1,s,t,he,h=>by
  obtain ⟨s0,h1,h2⟩:=h
  obtain ⟨e1,e2⟩:=he k (D8t k)
  rw [e1,e2] at h1
  exact ⟨s0,h1,A9K k (fun j hj=>he j (Nat.lt_succ_of_lt hj)) h2⟩
theorem A8g {bz n ty:Nat} {zs:Nat→List G5} {sv:Nat→AV} {nm:Nat→C8} {r1 r2:Nat→Int}:∀ (k:Nat) (s t:St) (g:Nat→AV),k≤n→A2B zs sv k s t→s bz=some ⟨ty,4,n,g⟩→(∀ j,j<k→g j=.agg [eS (nm j),sv j,eI (r1 j),eI (r2 j)]) →
  ∃ t' g',(∀ vs,A7 vs t vs t')∧E6 (upd s bz ⟨ty,4,n,g'⟩) t'∧(∀ j,j<k→g' j=.agg [eS (nm j),A8 2 A0Y (zs j),eI (r1 j),eI (r2 j)])∧∀ j,k≤j→g' j=g j
 | 0,s,t,g,hk,h,hs,hg=>by
  refine ⟨t,g,fun vs=>A7.refl _ _,fun b x hb=>?_,fun j hj=>absurd hj (by omega),fun j _=>rfl⟩
  by_cases e:b=bz
  ·subst e;rw [A0] at hb;cases hb;exact h _ _ hs
  ·rw [A9 e] at hb;exact h _ _ hb
 | k+1,s,t,g,hk,h,hs,hg=>by
  have hB:=A2p zs sv k
  have ht:t bz=some ⟨ty,4,n,g⟩:=(A2p zs sv (k+1)).sup h _ _ hs
  obtain ⟨t1,hsh,hc⟩:=ROut.shift hB h
  have ht1:t1 bz=some ⟨ty,4,n,g⟩:=hB.sup hc _ _ hs
  have hcell:=fun vs=>A7.cell (vs:=vs) (pre:=[eS (nm k)]) (post:=[eI (r1 k),eI (r2 k)]) hsh ht ht1 (show k<n by omega) (hg k (by omega)) rfl
  have hc':=hB.write (y':=⟨ty,4,n,I1 g k (.agg ([eS (nm k)]++AV.arr 2 (zs k).length (A7t (zs k))::[eI (r1 k),eI (r2 k)]))⟩) hc hs
  obtain ⟨t',g',k1,k2,k3,k4⟩:=A8g (nm:=nm) (r1:=r1) (r2:=r2) k _ _ _ (by omega) hc' (A0 ..) (fun j hj=>by rw [H4 (by omega)];exact hg j (by omega))
  rw [B7] at k2
  refine ⟨t',g',fun vs=>(hcell vs).trans (k1 vs),k2,fun j hj=>?_,fun j hj=>?_⟩
  ·by_cases e:j=k
   ·subst e;rw [k4 j (D5J _),A4];rfl
   ·exact k3 j (by omega)
  ·rw [k4 j (by omega),H4 (by omega)]
theorem C4T (k:Nat) (h:k<3):(⟨#[122]⟩:C8)++B2m ([]++[IntKind.u8.wrap (48+IntKind.u8.wrap (k:Int))])=Q0 k:=by rw [B2v];rfl
theorem B6o {l:List K7} {k:Nat} (h:k<l.length):D5 l k=⟨Q0 k,T7 (l.getD k default).rates,B5 (l.getD k default).rest 3000,B5 (l.getD k default).ship 3000⟩:=if_pos h
theorem B4K {l:List K7} {k:Nat} (h:¬ k<l.length):D5 l k=⟨Q0 k,[],1000 * k,500 * k⟩:=if_neg h
theorem C6s {l:List G5} {c:Nat} (hc:c<min 3 l.length):(T7 l).getD c default=A8x l c:=by
 unfold T7
 rw [D5A,D6y,D7e hc];rfl
abbrev B2C (z:K7) (rv:AV):AV:=.agg [eS z.name,rv,eI z.rest,eI z.ship]
def ZO (t:Tax) (k:Nat) (base:St) (zv:AV) (s:St):Prop :=
 ∃ (sv g:Nat→AV),ROut (A2B (fun j=>(D5 t.zones j).rates) sv k) 103 4 g k base zv s∧∀ j,j<k→g j=B2C (D5 t.zones j) (sv j)
theorem ZO.end {t:Tax} {base s:St} {zv:AV} (h:ZO t 3 base zv s):∃ t',A7 [zv] s [A8 4 T3 (L2 t).zones] t'∧E6 base t':=by
 obtain ⟨sv,g,⟨s1,hcol,hch⟩,hg⟩:=h
 rcases hcol with ⟨h0,_,_⟩ | ⟨h0,bz,g0,hbz,rfl,rfl,hgg⟩
 ·cases h0
 obtain ⟨t',g',hsh,hsup,hg',_⟩:=A8g (nm:=fun j=>(D5 t.zones j).name) (r1:=fun j=>(D5 t.zones j).rest) (r2:=fun j=>(D5 t.zones j).ship) 3 _ s g0 (D5J _) hch (A0 ..) (fun j hj=>by rw [hgg j hj,hg j hj])
 rw [B7] at hsup
 refine ⟨del t' bz,(hsh _).trans (N7 (hsup bz _ (A0 ..)) rfl (D5J _) fun i hi=>?_),?_⟩
 ·show g' i=T3 ((L2 t).zones.getD i default)
  rw [hg' i hi]
  have:(L2 t).zones.getD i default=D5 t.zones i:=by
   show ((List.range 3).map (D5 t.zones)).getD i default=_
   rw [D5A,D6y,D7e hi];rfl
  rw [this];rfl
 ·exact E6.del (((E6.refl base).upd hbz).trans hsup) hbz
theorem ZO.next {t:Tax} {k:Nat} {base s1 s:St} {zv rv:AV} {sv g:Nat→AV} (hcol:Col 103 4 g base k zv s1) (hR:ROut (A2B (fun j=>(D5 t.zones j).rates) sv k) 209 2 (A7t (D5 t.zones k).rates) (D5 t.zones k).rates.length s1 rv s) (hg:∀ j,j<k→g j=B2C (D5 t.zones j) (sv j)) :
  ∃ sv' g',ROut (A2B (fun j=>(D5 t.zones j).rates) sv' (k+1)) 103 4 g' k base zv s∧sv' k=rv∧(∀ j,j<k+1→g' j=B2C (D5 t.zones j) (sv' j)):=by
 have hsv:∀ j,j<k→sv j=(fun j=>if j=k then rv else sv j) j:=fun j hj=>by simp only;rw [if_neg (by omega)]
 refine ⟨fun j=>if j=k then rv else sv j,fun j=>B2C (D5 t.zones j) (if j=k then rv else sv j),⟨s1,Col.congr hcol fun j hj=>by rw [hg j hj];show B2C _ _=B2C _ (if j=k then rv else sv j);rw [if_neg (by omega)],?_⟩,by simp,fun j _=>rfl⟩
 obtain ⟨s2,h1,h2⟩:=hR
 refine ⟨s2,?_,A9K k (fun j hj=>⟨rfl,hsv j hj⟩) h2⟩
 simp only [if_true];exact h1
theorem B6S {R:St→St→Prop} {ty e n b:Nat} {fo:Nat→AV} {base s:St} {zv:AV} {y:K8} (h:ROut R ty e fo n (upd base b y) zv (upd s b y)) (ty' e':Nat) (fo':Nat→AV):∃ s1,Col ty e fo (upd base b y) n zv s1∧ROut R ty' e' fo' 0 s1 .emp (upd s b y):=by
 obtain ⟨s1,h1,h2⟩:=h
 exact ⟨s1,h1,ROut.start h2 _ _ _⟩
theorem C6G {R:St→St→Prop} (hR:L3 R) {ty e n b ty' e' m:Nat} {fo fo':Nat→AV} {base s1 t:St} {zv rv:AV} {y:K8} (h1:Col ty e fo (upd base b y) n zv s1) (h2:ROut R ty' e' fo' m s1 rv t) (y':K8) :
  ∃ s1',Col ty e fo (upd base b y') n zv s1'∧ROut R ty' e' fo' m s1' rv (upd t b y'):=by
 have h3:=Col.write (y':=y') h1 (A0 ..)
 rw [B7] at h3
 exact ⟨_,h3,ROut.write hR h2 (h1.sup b _ (A0 ..))⟩
set_option maxHeartbeats 8000000 in
theorem C1c (x:Tax) (st:St):S P 102 [S7 x] st fun v st'=>v=S7 (L2 x)∧st'=st:=by
 have hE:S7 (L2 x)=.agg [eB x.incl,eB x.byOrder,eI (B5 x.round 3),A8 4 T3 (L2 x).zones]:=rfl
 refine S.post (post:=fun v s=>∃ zv base,v=.agg [eB x.incl,eB x.byOrder,eI (B5 x.round 3),zv]∧A7 [zv] s [A8 4 T3 (L2 x).zones] base∧E6 st base) ?_ (fun v s ⟨zv,base,h1,h2,h3⟩=>⟨_,st,⟨hE.symm,rfl⟩,by
  rw [h1]
  exact (A7.agg (A7.cons (A7.keep [eB x.incl] _) (A7.cons (A7.keep [eB x.byOrder] _) (A7.cons (A7.keep [eI (B5 x.round 3)] _) h2)))).trans (h3.shift _)⟩)
 clear hE
 have hRd:=fun s=>Z8 x.round 3 (by decide) (by decide) s
 obtain ⟨RD',hRD'⟩:∃ RD',RD'=B5 x.round 3:=⟨_,rfl⟩
 rw [←hRD'] at hRd ⊢
 have hend:=fun base s zv=>ZO.end (t:=x) (base:=base) (s:=s) (zv:=zv)
 have hnext:=fun k base s1 s zv rv sv g=>ZO.next (t:=x) (k:=k) (base:=base) (s1:=s1) (s:=s) (zv:=zv) (rv:=rv) (sv:=sv) (g:=g)
 generalize A8 4 T3 (L2 x).zones=ZS at hend ⊢
 refine F1 [1] Tryz.func102 ?_
 intro b2 hb2;conv=>whnf
 refine ⟨[8,9],[1,3,5,6],List.range 10,by kernel_rfl,?_⟩;conv=>whnf
 refine ⟨_,fun s _=>⟨rfl,rfl⟩,?_⟩;conv=>whnf
 refine ⟨_,fun s _=>⟨rfl,rfl⟩,?_⟩;conv=>whnf
 refine ⟨_,fun s _=>⟨rfl,rfl⟩,?_⟩;conv=>whnf
 refine ⟨_,fun s _=>F2 (hRd s),?_⟩;conv=>whnf
 intro b3 hb3
 have h23:b2≠b3:=fun e=>by subst e;rw [A0] at hb3;cases hb3
 conv=>whnf
 refine stU (A0 ..) rfl ?_
 rw [B7];conv=>whnf
 refine lp 3 [1,2,3,4] (fun k vs s=>∃ zv f,vs=[.fptr (S7 x) 0,.optr 4 b2 0 0,.optr 4 b3 0 0,eI k]∧f 0=.agg [eB x.incl,eB x.byOrder,eI RD',zv]∧ZO x k (upd (upd st b2 ⟨26,4,1,fun _=>H2 r26.zero⟩) b3 ⟨26,4,1,f⟩) zv s) ?_ ?_
 ·conv=>whnf
  exact ⟨.emp,_,rfl,by first | rfl | (rw [A4];rfl),fun _=>.junk,fun _=>.junk,ROut.start (show A2B _ _ 0 _ _ from E6.refl _) _ _ _,fun j hj=>absurd hj (by omega)⟩
 rintro k vs s hk ⟨zv,f,rfl,hf,sv,g,hR,hg⟩
 have hB:=A2p (fun j=>(D5 x.zones j).rates) sv k
 have hsup:=ROut.sup hB hR
 have at3:s b3=some ⟨26,4,1,f⟩:=hsup b3 _ (A0 ..)
 have at2:s b2=some ⟨26,4,1,fun _=>H2 r26.zero⟩:=hsup b2 _ (by rw [A9 h23];exact A0 ..)
 conv=>whnf
 refine B8 (fun h1=>?_) (fun h1=>?_)<;>rw [h1]<;>simp only [D5C,D5B] at h1
 case refine_2 =>
  obtain rfl:k=3:=by omega
  have hz:=ROut.head hR
  obtain ⟨y2,hy2⟩:∃ y2:K8,y2=⟨26,4,1,I1 (fun _=>H2 r26.zero) 0 (.agg [eB x.incl,eB x.byOrder,eI RD',zv])⟩:=⟨_,rfl⟩
  obtain ⟨base,k1,k2⟩:=hend _ _ _ ⟨sv,g,ROut.write hB hR (b:=b2) (y':=y2) (by rw [A9 h23];exact A0 ..),hg⟩
  subst hy2
  rcases hz with rfl | ⟨bz,rfl⟩
  all_goals
   conv=>whnf
   refine I4 at3 hf ?_
   refine X8 at2 rfl ?_
   refine I4 (A0 ..) (A4 ..) ?_
   exact ⟨_,base,rfl,k1,((((E6.refl st).upd hb2).upd hb3).over hb2).trans k2⟩
 have hk3:k<3:=by omega
 have hzn:=C4T k hk3
 have w1:IntKind.i64.wrap (1000 * (k:Int))=1000 * k:=A5 (by omega) (by omega)
 have w2:IntKind.i64.wrap (500 * (k:Int))=500 * k:=A5 (by omega) (by omega)
 have hname:∀ j,(D5 x.zones j).name=Q0 j:=fun j=>by unfold D5;split<;>rfl
 conv=>whnf
 intro b5 hb5
 have h35:b3≠b5:=fun e=>by subst e;rw [at3] at hb5;cases hb5
 have h25:b2≠b5:=fun e=>by subst e;rw [at2] at hb5;cases hb5
 have hbase5:(upd (upd st b2 ⟨26,4,1,fun _=>H2 r26.zero⟩) b3 ⟨26,4,1,f⟩) b5=none:=hsup.none hb5
 conv=>whnf
 rw [hzn,w1,w2]
 refine stU (A0 ..) rfl ?_
 rw [B7]
 /- the tail: the zone as it then stands is appended -/
 have tail:∀ (s2 s1:St) (rv:AV) (f5:Nat→AV),Col 103 4 g (upd (upd (upd st b2 ⟨26,4,1,fun _=>H2 r26.zero⟩) b3 ⟨26,4,1,f⟩) b5 ⟨103,4,1,f5⟩) k zv s1 →
   ROut (A2B (fun j=>(D5 x.zones j).rates) sv k) 209 2 (A7t (D5 x.zones k).rates) (D5 x.zones k).rates.length s1 rv s2 →
   ∀ (X:AV) (gg:Nat→AV),A0i 4 s2 X=some (1,gg)→gg 0=B2C (D5 x.zones k) rv →
   ∀ (K:KK),(∀ zv' t2,t2 b3=some ⟨26,4,1,f⟩→(zv'=.emp∨∃ b,zv'=.own 4 b 0 (k+1))→(∀ f',ZO x (k+1) (upd (upd st b2 ⟨26,4,1,fun _=>H2 r26.zero⟩) b3 ⟨26,4,1,f'⟩) zv' (upd t2 b3 ⟨26,4,1,f'⟩))→K zv' t2) →
   A5x T 24 zv X s2 K:=by
  intro s2 s1 rv f5 hcol hrt X gg hs hgg K hK
  obtain ⟨sv',g',q1,q2,q3⟩:=hnext _ _ _ _ _ _ _ _ hcol hrt hg
  have hB':=A2p (fun j=>(D5 x.zones j).rates) sv' (k+1)
  refine ROut.app (q:=C1g) (f:=g') hB' rfl rfl rfl rfl hs (by rw [q3 k (D8t k),q2,hgg]) (by show (k+1) * 56≤140737488355328;omega) q1 (fun zv' t2 hR2=>?_)
  have hsup2:=ROut.sup hB' hR2
  have hd:∀ f',ROut (A2B (fun j=>(D5 x.zones j).rates) sv' (k+1)) 103 4 g' (k+1) (upd (upd st b2 ⟨26,4,1,fun _=>H2 r26.zero⟩) b3 ⟨26,4,1,f'⟩) zv' (upd t2 b3 ⟨26,4,1,f'⟩):=fun f'=>by
   have h1:=ROut.write hB' hR2 (b:=b3) (y':=⟨26,4,1,f'⟩) (by rw [A9 h35];exact A0 ..)
   rw [R3 h35.symm,B7] at h1
   refine (U5 hB' _ _ _ _ _).drop h1 ?_
   rw [A9 h35.symm] at hbase5 ⊢;exact hbase5
  exact hK zv' t2 (hsup2 b3 _ (by rw [A9 h35];exact A0 ..)) (ROut.head hR2) fun f'=>⟨sv',g',hd f',q3⟩
 have hbeg:=fun y=>(U5 hB 103 4 g k zv).begin (y:=y) hR hb5
 conv=>whnf
 refine B8 (fun h2=>?_) (fun h2=>?_)<;>rw [h2]<;>simp only [D5C,D5B] at h2
 case refine_2 =>
  have hz:=B4K (l:=x.zones) (k:=k) (by omega)
  rw [hz] at tail
  rcases ROut.head hR with rfl | ⟨bz,rfl⟩
  all_goals
   conv=>whnf
   refine I4 (by rw [A9 h35];exact at3) hf ?_
   refine I4 (A0 ..) (A4 ..) ?_
   obtain ⟨s1,hcol,hrt⟩:=B6S (hbeg ⟨103,4,1,I1 (fun _=>H2 C1g.zero) 0 (.agg [eS (Q0 k),.emp,eI (1000 * k),eI (500 * k)])⟩) 209 2 (A7t [])
   refine tail _ s1 .emp _ hcol hrt _ _ rfl rfl _ (fun zv' t2 q1 q2 q3=>?_)
   rcases q2 with rfl | ⟨bq,rfl⟩
   all_goals
    conv=>whnf
    refine X8 q1 hf ?_
    refine F6 ?_
    exact nx hk3 ⟨_,_,by rw [B4 (by omega)],(by rw [A4];rfl),q3 _⟩
 have hz:=B6o (l:=x.zones) (k:=k) (by omega)
 have hrl:=fun c=>C6s (l:=(x.zones.getD (k:Int).toNat default).rates) (c:=c)
 have hrn:(T7 (x.zones.getD (k:Int).toNat default).rates).length=min 3 (x.zones.getD (k:Int).toNat default).rates.length:=by unfold T7;rw [D5F,D6d]
 rw [hz] at tail
 have hM1:=fun s=>O2 (x.zones.getD (k:Int).toNat default).rest 3000 (by decide) (by decide) s
 have hM2:=fun s=>O2 (x.zones.getD (k:Int).toNat default).ship 3000 (by decide) (by decide) s
 have tail':_:=tail
 rw [show x.zones.getD k default=x.zones.getD (k:Int).toNat default from rfl] at tail'
 clear tail
 generalize T7 (x.zones.getD (k:Int).toNat default).rates=RL at tail' hrl hrn
 generalize B5 (x.zones.getD (k:Int).toNat default).rest 3000=M1 at tail' hM1
 generalize B5 (x.zones.getD (k:Int).toNat default).ship 3000=M2 at tail' hM2
 conv=>whnf
 refine ⟨[15,17],[],List.range 18,by kernel_rfl,?_⟩;conv=>whnf
 refine E4 ?_
 refine cqW (hM1 _) ?_
 refine E4 ?_
 refine cqW (hM2 _) ?_
 refine stU (A0 ..) (A4 ..) ?_
 rw [B7];conv=>whnf
 refine stU (A0 ..) (A4 ..) ?_
 rw [B7];conv=>whnf
 refine lp (min 3 (x.zones.getD (k:Int).toNat default).rates.length) [1,2,3,4,5,6] (fun c vs s'=>∃ rv f5,vs=[.fptr (S7 x) 0,.optr 4 b2 0 0,.optr 4 b3 0 0,eI k,.optr 4 b5 0 0,eI c]∧f5 0=.agg [eS (Q0 k),rv,eI M1,eI M2] ∧
   ∃ s1,Col 103 4 g (upd (upd (upd st b2 ⟨26,4,1,fun _=>H2 r26.zero⟩) b3 ⟨26,4,1,f⟩) b5 ⟨103,4,1,f5⟩) k zv s1∧ROut (A2B (fun j=>(D5 x.zones j).rates) sv k) 209 2 (A7t RL) c s1 rv s') ?_ ?_
 ·conv=>whnf
  exact ⟨.emp,_,rfl,by first | rfl | (rw [A4];rfl),B6S (hbeg _) _ _ _⟩
 rintro c vs s' hc ⟨rv,f5,rfl,hf5,s1,hcol,hrt⟩
 have hsup':=ROut.sup hB hrt
 have at5:s' b5=some ⟨103,4,1,f5⟩:=hsup' b5 _ (hcol.sup b5 _ (A0 ..))
 have at3':s' b3=some ⟨26,4,1,f⟩:=hsup' b3 _ (hcol.sup b3 _ (by rw [A9 h35];exact A0 ..))
 conv=>whnf
 refine B8 (fun h3=>?_) (fun h3=>?_)<;>rw [h3]<;>simp only [D5C,D5B] at h3
 case' refine_1 =>
  conv=>whnf
  refine E4 ?_
  refine B8 (fun h4=>?_) (fun h4=>?_)<;>rw [h4]<;>simp only [D5C,D5B] at h4
 case refine_1.refine_1 =>
  have hc':c<min 3 (x.zones.getD (k:Int).toNat default).rates.length:=by omega
  have hra:=hrl c hc'
  rcases ROut.head hrt with rfl | ⟨br,rfl⟩
  all_goals
   conv=>whnf
   refine ⟨[17,19],[14],List.range 20,by kernel_rfl,?_⟩;conv=>whnf
   refine I4 at5 hf5 ?_
   refine cqW (A4T _ _) ?_
   refine E4 ?_
   refine E4 ?_
   refine ⟨_,fun s _=>F2 (O2 _ 3000 (by decide) (by decide) s),?_⟩;conv=>whnf
   refine ⟨_,⟨rfl,rfl⟩,?_⟩;conv=>whnf
   refine ROut.app (q:=C6j) hB rfl rfl rfl rfl rfl (f:=A7t RL) (by show _=A0Y _;rw [hra];rfl) (by show (c+1) * 24≤140737488355328;omega) hrt (fun rv' t2 hrt2=>?_)
   have at5':t2 b5=some ⟨103,4,1,f5⟩:=ROut.sup hB hrt2 b5 _ (hcol.sup b5 _ (A0 ..))
   rcases ROut.head hrt2 with rfl | ⟨br',rfl⟩
   all_goals
    conv=>whnf
    refine X8 at5' hf5 ?_
    refine F6 ?_
    exact nx hc' ⟨_,_,by rw [B4 (by omega)],(by rw [A4];rfl),C6G hB hcol hrt2 _⟩
 all_goals
  have hce:RL.length=c:=by omega
  rw [←hce] at hrt
  rcases ROut.head hR with rfl | ⟨bz,rfl⟩
  all_goals
   rcases ROut.head hrt with rfl | ⟨br,rfl⟩
   all_goals
    conv=>whnf
    refine I4 at3' hf ?_
    refine I4 at5 hf5 ?_
    refine tail' _ s1 _ _ hcol hrt _ _ rfl rfl _ (fun zv' t2 q1 q2 q3=>?_)
    rcases q2 with rfl | ⟨bq,rfl⟩
    all_goals
     conv=>whnf
     refine X8 q1 hf ?_
     refine F6 ?_
     exact nx hk3 ⟨_,_,by rw [B4 (by omega)],(by rw [A4];rfl),q3 _⟩
set_option maxHeartbeats 8000000 in
theorem B6n (r:H0) (st:St):S P 44 [H5 r] st fun v st'=>v=H5 (H6 r)∧st'=st:=by
 have hE:H5 (H6 r)=.agg [A8 4 E5 (G2 r.items),A8 15 B9 (N4 r.promos),eB (L2 r.tax).incl,eB (L2 r.tax).byOrder,eI (L2 r.tax).round,A8 4 T3 (L2 r.tax).zones,eI (B5 r.ship.fee 900),eI (B5 r.ship.free 3 * 4000),
  eI (20+B5 r.policy.window 60),eI (B5 r.policy.grace 40),eI (1+B5 r.policy.mode 3),eI (B5 r.policy.restock 3 * B5 r.policy.restock 2500),B0 (O5 r.policy.order),B0 (O5 r.policy.credit)]:=rfl
 rw [hE]
 clear hE
 have h1:=C7 r.ship.fee (n:=900) (by decide)
 have h2:=C7 r.ship.free (n:=3) (by decide)
 have h3:=C7 r.policy.window (n:=60) (by decide)
 have h5:=C7 r.policy.mode (n:=3) (by decide)
 have h6:=C7 r.policy.restock (n:=3) (by decide)
 have h7:=C7 r.policy.restock (n:=2500) (by decide)
 have h8:B5 r.policy.restock 3 * B5 r.policy.restock 2500≤2 * 2499:=D7Y (by omega) (by omega) (by omega) (by omega)
 have h9:0≤B5 r.policy.restock 3 * B5 r.policy.restock 2500:=D7a h6.1 h7.1
 have w1:IntKind.i64.wrap (B5 r.ship.free 3 * 4000)=B5 r.ship.free 3 * 4000:=A5 (by omega) (by omega)
 have w2:IntKind.i64.wrap (20+B5 r.policy.window 60)=20+B5 r.policy.window 60:=A5 (by omega) (by omega)
 have w3:IntKind.i64.wrap (1+B5 r.policy.mode 3)=1+B5 r.policy.mode 3:=A5 (by omega) (by omega)
 have w4:IntKind.i64.wrap (B5 r.policy.restock 3 * B5 r.policy.restock 2500)=B5 r.policy.restock 3 * B5 r.policy.restock 2500:=A5 (by omega) (by omega)
 have m1:=fun s=>O2 r.ship.fee 900 (by decide) (by decide) s
 have m2:=fun s=>O2 r.ship.free 3 (by decide) (by decide) s
 have m3:=fun s=>Z8 r.policy.window 60 (by decide) (by decide) s
 have m4:=fun s=>Z8 r.policy.grace 40 (by decide) (by decide) s
 have m5:=fun s=>Z8 r.policy.mode 3 (by decide) (by decide) s
 have m6:=fun s=>O2 r.policy.restock 3 (by decide) (by decide) s
 have m7:=fun s=>O2 r.policy.restock 2500 (by decide) (by decide) s
 have c1:=fun s=>B6k r.items s
 have c2:=fun s=>B4J r.promos s
 have c3:∀ s,S P 102 [S7 r.tax] s fun v st'=>v=.agg [eB (L2 r.tax).incl,eB (L2 r.tax).byOrder,eI (L2 r.tax).round,A8 4 T3 (L2 r.tax).zones]∧st'=s:=fun s=>C1c r.tax s
 have c4:=fun s=>A9P r.policy.order s
 have c5:=fun s=>A9P r.policy.credit s
 clear h1 h2 h3 h5 h6 h7 h8 h9
 generalize B5 r.ship.fee 900=M1 at *
 generalize B5 r.ship.free 3=M2 at *
 generalize B5 r.policy.window 60=M3 at *
 generalize B5 r.policy.grace 40=M4 at *
 generalize B5 r.policy.mode 3=M5 at *
 generalize B5 r.policy.restock 3=M6 at *
 generalize B5 r.policy.restock 2500=M7 at *
 generalize G2 r.items=V1 at *
 generalize N4 r.promos=V2 at *
 generalize L2 r.tax=V3 at *
 generalize O5 r.policy.order=V4 at *
 generalize O5 r.policy.credit=V5 at *
 refine A1C ?_
 refine F1 [1,3] Tryz.func44 ?_
 intro b2 hb;conv=>whnf
 refine ⟨[45],[],List.range 46,by kernel_rfl,?_⟩;conv=>whnf
 refine cqW (c1 _) ?_
 refine cqW (c2 _) ?_
 refine cqW (c3 _) ?_
 refine cqW (m1 _) ?_
 refine cqW (m2 _) ?_
 rw [w1]
 refine cqW (m3 _) ?_
 rw [w2]
 refine cqW (m4 _) ?_
 refine cqW (m5 _) ?_
 rw [w3]
 refine cqW (m6 _) ?_
 refine cqW (m7 _) ?_
 rw [w4]
 refine cqW (c4 _) ?_
 refine cqW (c5 _) ?_
 refine X8 (A0 ..) rfl ?_
 refine I4 (A0 ..) (A4 ..) ?_
 exact ⟨rfl,((E6.refl st).upd hb).over hb⟩
end Go.Proofs.YtaapofnkmpiknaaGreat
