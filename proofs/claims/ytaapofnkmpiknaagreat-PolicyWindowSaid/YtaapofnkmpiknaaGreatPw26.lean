/- Part 26 of the proof: contracts of the functions that the law reaches -/
import Derived.Test.YtaapofnkmpiknaaGreatPw25
set_option maxRecDepth 100000
set_option linter.unusedVariables false
set_option linter.unusedSimpArgs false
namespace Go.Proofs.YtaapofnkmpiknaaGreat
open Go Go.Ab
attribute [local irreducible] upd del
structure B0I (l:List A8):Prop where
 few:l.length≤60
 right:∀ p∈l,I6 p=true
 ids:∀ i j,i<j→j<l.length→((l.getD i default).id.toList==(l.getD j default).id.toList)=false
theorem B7N {l:List A8} (h:promosC l=true):B0I l:=by
 unfold promosC Z0 at h
 simp only [C9l,C9n,C9O,C9S] at h
 obtain ⟨h1,h2⟩:=h
 refine ⟨by omega,fun p hp=>?_,fun i j hij hj=>?_⟩
 ·obtain ⟨k,hk,rfl⟩:=F2 hp
  have:=h2 k hk
  unfold W5 at this
  rw [C9l] at this;exact this.1
 ·have:=h2 j hj
  unfold W5 at this
  rw [C9l,C9F,D2d] at this
  have h3:=this.2 (l.getD i default) (by
   have:(l.take j).getD i default=l.getD i default:=by rw [C9i,C9i,C9w hij]
   rw [←this]
   exact A7 (by rw [C9D];omega))
  simpa using h3
structure B8V (r:D4):Prop where
 n:Sm r.items.length
 items:∀ x∈r.items,Sm x.sku.size∧Sm x.cat.size
 promos:∀ p∈r.promos,B8S p
 tax:C2e r.tax
 order:Sm r.policy.order.length
 credit:Sm r.policy.credit.length
def T6 (l:List A8) (codes:List C9):List Int:=(places l codes l.length).mergeSort fun x y=>!A0o (D2 l y) (D2 l x)
theorem A5A (l:List A8) (codes:List C9):(T6 l codes).Perm (places l codes l.length):=D1u ..
theorem B7B (l:List A8) (codes:List C9):(T6 l codes).Pairwise (A4s l):=by
 have:=D1o (le:=fun x y:Int=>!A0o (D2 l y) (D2 l x)) (fun a b c h1 h2=>by simp only [C9F] at *;exact A9M h1 h2) (fun a b=>by
  cases h:A0o (D2 l b) (D2 l a) with
  | false=>rfl
  | true=>rw [B0N h];rfl) (places l codes l.length)
 exact this.imp (fun h=>by simpa [A4s] using h)
theorem B2Q {l:List A8} (ok:B0I l) {x y:Int} (hx:0≤x∧x.toNat<l.length) (hy:0≤y∧y.toNat<l.length) (h1:A4s l x y) (h2:A4s l y x):x=y:=by
 unfold A4s at h1 h2
 rw [←D0z,A0p] at h1 h2
 have e:(D2 l x).prio=(D2 l y).prio:=by
  have a:¬(D2 l y).prio>(D2 l x).prio:=fun h=>h1 (.inl h)
  have b:¬(D2 l x).prio>(D2 l y).prio:=fun h=>h2 (.inl h)
  omega
 have a:Y4 (D2 l y).id (D2 l x).id=false:=by rw [←D0z];exact fun h=>h1 (.inr ⟨e.symm,h⟩)
 have b:Y4 (D2 l x).id (D2 l y).id=false:=by rw [←D0z];exact fun h=>h2 (.inr ⟨e,h⟩)
 have c:=A4V a b
 rcases Nat.lt_trichotomy x.toNat y.toNat with h | h | h
 ·have:=ok.ids _ _ h hy.2
  rw [C9W] at this
  exact absurd c.symm this
 ·omega
 ·have:=ok.ids _ _ h hx.2
  rw [C9W] at this
  exact absurd c this
theorem B7A {l:List A8} (hC:promosC l=true) {codes:List C9} {o:List Int} (h1:o.Perm (places l codes l.length)) (h2:o.Pairwise (A4s l)):o=T6 l codes:=by
 refine (h1.trans (A5A l codes).symm).eq_of_pairwise (le:=A4s l) (fun a b ha hb h3 h4=>?_) h2 (B7B l codes)
 exact B2Q (B7N hC) (V7 (h1.mem_iff.1 ha)) (V7 ((A5A l codes).mem_iff.1 hb)) h3 h4
theorem B1x {l:List A8} (hC:promosC l=true) {codes:List C9} {o:List Int} (ho:A6l l codes o):H5 l o=T6 l codes:=by
 refine B7A hC ((A5G l o).trans ho.1) ?_
 refine List.Pairwise.map _ (fun a b h=>h) (R:=fun a b:QE=>A4s l (gI o a.2.toNat) (gI o b.2.toNat)) ?_
 refine (A3J l o).imp_of_mem fun {a b} ha hb h=>?_
 have h1:=A2i ha
 have h2:=A2i hb
 obtain ⟨i,hi,rfl⟩:=C9H.1 ((T5 l o).mem_iff.1 ha)
 obtain ⟨j,hj,rfl⟩:=C9H.1 ((T5 l o).mem_iff.1 hb)
 rw [P3] at h
 simp only [A7F,C9Q] at h h1 h2 ⊢
 unfold A4s
 rw [←D0z,A0p]
 rintro (h3 | ⟨h3,h4⟩)
 ·exact h (.inl h3)
 ·rcases Nat.lt_trichotomy i j with e | e | e
  ·have:=ho.2 i j (C9v _) e h2.2
   unfold B9t at this
   rw [this] at h4;cases h4
  ·subst e;rw [A2k] at h4;cases h4
  ·exact h (.inr ⟨h3,by omega⟩)
def C0t (l:List A0l):Int:=if (l.all K8&&decide ((l.length:Int)≤6))=true then Z3 l else 0
def B7d (o:D6):Bool:=J7 o.id&&J7 o.zone&&(decide (o.rules≥1)&&decide (o.rules≤40))&&U0 o.codes&&R1 0 100000 o.day&&(decide ((o.lines.length:Int)≥1)&&decide ((o.lines.length:Int)≤1000))
theorem B5f (o:D6):H7 o=(B7d o&&o.lines.all Z2&&W9 o&&(A1P o.book&&(W6 o.book==o.net)&&(o.tenders.all K8&&decide ((o.tenders.length:Int)≤6))&&(C0t o.tenders==o.net))):=by
 have e:H7 o=(decide ((o.tenders.length:Int)≤6)&&A3I o&&A1c o&&W9 o&&A3G o&&R7 o):=rfl
 have h1:A3I o=(J7 o.id&&J7 o.zone&&(decide (o.rules≥1)&&decide (o.rules≤40))&&U0 o.codes&&R1 0 100000 o.day):=rfl
 rw [e,h1]
 unfold A1c A3G R7 B7d C0t
 generalize decide ((o.tenders.length:Int)≤6)=a1
 generalize o.tenders.all K8=a2
 generalize o.lines.all Z2=a3
 generalize W9 o=a4
 generalize A1P o.book=a5
 generalize (W6 o.book==o.net)=a6
 generalize decide ((o.lines.length:Int)≥1)=a7
 generalize decide ((o.lines.length:Int)≤1000)=a8
 generalize (J7 o.id&&J7 o.zone&&(decide (o.rules≥1)&&decide (o.rules≤40))&&U0 o.codes&&R1 0 100000 o.day)=a9
 cases a1<;>cases a2<;>simp only [D0n,C9I,C9K,C9A,if_true]<;>generalize (Z3 o.tenders==o.net)=b<;>cases a3<;>cases a4<;>cases a5<;>cases a6<;>cases a7<;>cases a8<;>cases a9<;>cases b<;>rfl
theorem B4Z {t k:Int} (ht:0≤t∧t≤10000000000000) (hk:0≤k∧k≤100000):0≤t * k∧t * k≤1000000000000000000:=by
 refine ⟨D0x ht.1 hk.1,?_⟩
 have h1:t * k≤10000000000000 * k:=D0L ht.2 hk.1
 omega
theorem B0y (t n k:Int) (ht:0≤t∧t≤10000000000000) (hn:1≤n∧n≤100000) (hk:0≤k∧k≤n) (st:St):S P 65 [eI t,eI n,eI k] st fun v st'=>v=.tuple [eI (L9 t n k),eI 0]∧st'=st:=by
 have n1:=A2d t st
 rw [show E4 t=true from G2.2 ⟨by omega,by omega⟩] at n1
 have g1:decide (n<1)=false:=C9s (by omega)
 have g2:decide (n>100000)=false:=C9s (by omega)
 have g3:decide (k<0)=false:=C9s (by omega)
 have g4:decide (k>n)=false:=C9s (by omega)
 have w1:IntKind.u64.wrap t=t:=B1 (by omega) (by omega)
 have w2:IntKind.u64.wrap k=k:=B1 (by omega) (by omega)
 have w3:IntKind.u64.wrap n=n:=B1 (by omega) (by omega)
 have hm:=B4Z ht (k:=k) ⟨hk.1,by omega⟩
 have w4:IntKind.u64.wrap (t * k)=t * k:=B1 hm.1 (by omega)
 have hu:=A0d ht.1 hn.1 hk.1 hk.2
 have w5:IntKind.u64.wrap ((t * k).tdiv n)=L9 t n k:=by rw [D0u hm.1];exact B1 (x:=L9 t n k) hu.1 (by omega)
 have w6:IntKind.i64.wrap (L9 t n k)=L9 t n k:=A6 (by omega) (by omega)
 refine SyW [] Tryz.func65 ?_
 repeat' ((conv=>whnf);first | refine B6 n1 ?_ | rw [g1] | rw [g2] | rw [g3] | rw [g4])
 conv=>whnf
 rw [w3,C9s (show ¬ n=0 by omega)];conv=>whnf
 rw [w1,w2,w4,w5,w6]
 exact ⟨rfl,rfl⟩
def A3Y (x:T7):E6:=⟨x.sku,x.left,x.price⟩
theorem B7X (o:D6) (hl:o.lines.length≤100000) (st:St):S P 51 [I3 o] st fun v st'=>v=B0 3 M2 (A8M o)∧st'=st:=by
 refine A6L (ty:=137) ?_
 refine F5 [1,5] Tryz.func51 ?_
 refine lp o.lines.length [3,7,8,9] (fun i vs s=>∃ sv,vs=[sv,B0 6 R6 o.lines,eI o.lines.length,eI i]∧U9 137 3 M2 ((o.lines.take i).map A3Y) st sv s) ?_ ?_
 ·conv=>whnf
  exact ⟨.emp,rfl,U9.start _ _ _ _⟩
 rintro i vs s hi ⟨sv,rfl,hc⟩
 conv=>whnf
 cases h:decide ((i:Int)<(o.lines.length:Int))
 ·obtain rfl:=L5 h hi
  rw [C9u] at hc;conv=>whnf
  exact hc
 have hi':=X4 h
 have hln:((o.lines.take i).map A3Y).length=i:=by rw [C9o,C9D];omega
 have htk:(o.lines.take (i+1)).map A3Y=(o.lines.take i).map A3Y++[A3Y (o.lines.getD (i:Int).toNat default)]:=B8v hi' A3Y
 conv=>whnf
 refine I8 ?_
 refine U9.app (q:=C1v) (y:=A3Y (o.lines.getD (i:Int).toNat default)) rfl rfl rfl rfl rfl rfl (by rw [hln];show (i+1) * 32≤140737488355328;omega) hc (fun sv' s' hc'=>?_);conv=>whnf
 refine I9 ?_
 exact nx hi' ⟨sv',by rw [C1 (by omega)],by rw [htk];exact hc'⟩
def A5k (o:D6) (i:Nat):Z6:=⟨shG (o.lines.take i),shT (o.lines.take i),if O7 (o.lines.take i)=true then o.ship else 0,if O7 (o.lines.take i)=true then o.shipTax else 0,0⟩
theorem A9q {l:List T7} {i:Nat} (hi:i<l.length):O7 (l.take (i+1))=(O7 (l.take i)||decide ((l.getD i default).left>0)):=by
 unfold O7;rw [N5 hi,List.any_append];simp
theorem B5B {l:List T7} (hl:l.length≤1000) (hk:∀ x∈l,Z2 x=true) (i:Nat):(0≤shG (l.take i)∧shG (l.take i)≤10000000000000000)∧(0≤shT (l.take i)∧shT (l.take i)≤10000000000000000):=by
 have hln:(l.take i).length≤1000:=by rw [C9D];omega
 have a:=A7x (f:=fun x:T7=>L9 x.goods x.sold x.left) (M:=10000000000000) (by decide) (l.take i) (fun x hx=>by
  obtain ⟨_,_,h1,h2,h3,_⟩:=A1r (hk x (D0m _ _ hx))
  have:=A0d h3.1 h1.1 h2.1 h2.2
  exact ⟨this.1,by omega⟩) 0
 have b:=A7x (f:=fun x:T7=>L9 x.tax x.sold x.left) (M:=10000000000000) (by decide) (l.take i) (fun x hx=>by
  obtain ⟨_,_,h1,h2,_,h3⟩:=A1r (hk x (D0m _ _ hx))
  have:=A0d h3.1 h1.1 h2.1 h2.2
  exact ⟨this.1,by omega⟩) 0
 unfold shG shT
 exact ⟨⟨by omega,by omega⟩,by omega,by omega⟩
set_option maxHeartbeats 2000000 in
theorem B5y (o:D6) (hs:A3F o) (st:St):S P 18 [I3 o] st fun v st'=>v=A0O (A4U o)∧st'=st:=by
 have n1:=fun s=>A4P o hs s
 have hB:A4U o=if H7 o=true then A5k o o.lines.length else ⟨0,0,0,0,0⟩:=by
  unfold A4U A5k;rw [C9u]
 have hO:H7 o=true→o.lines.length≤1000∧∀ x∈o.lines,Z2 x=true:=fun h=>by
  rw [B5f] at h
  unfold B7d at h
  simp only [C9l,C9n,C9O] at h
  exact ⟨by omega,h.1.1.2⟩
 generalize H7 o=b at *
 refine A1k ?_
 refine A1G [1,5] A7d mixed Tryz.func18 (by rfl) rfl rfl rfl ?_;conv=>whnf
 intro b2 hb2;conv=>whnf
 intro b3 hb3
 have h23:b2≠b3:=fun e=>by subst e;rw [A0] at hb3;cases hb3
 have hs2:E9 st (upd st b2 ⟨47,5,1,fun _=>H4 r47.zero⟩):=(E9.refl st).upd hb2
 have hb3':st b3=none:=hs2.none hb3
 conv=>whnf
 refine B6 (n1 _) ?_
 cases b
 ·rw [if_neg (by simp)] at hB
  rw [hB];conv=>whnf
  refine K9 (A0 ..) rfl ?_
  refine stW (by rw [A5 h23];exact A0 ..) rfl ?_
  refine K9 (A0 ..) (B4 ..) ?_
  exact ⟨rfl,((hs2.upd hb3).over hb2)⟩
 rw [if_pos rfl] at hB
 obtain ⟨hl,hk⟩:=hO rfl
 rw [hB]
 clear hB n1 hO
 conv=>whnf
 refine lp o.lines.length [1,2,3,15,16,17] (fun i vs s=>vs=[.fptr (I3 o) 0,.optr 5 b2 0 0,.optr 5 b3 0 0,B0 6 R6 o.lines,eI o.lines.length,eI i]∧∃ f3,s=upd (upd st b2 ⟨47,5,1,fun _=>H4 r47.zero⟩) b3 ⟨47,5,1,f3⟩∧f3 0=A0O (A5k o i)) ?_ ?_
 ·conv=>whnf
  exact ⟨rfl,_,rfl,rfl⟩
 rintro i vs s hi ⟨rfl,f3,rfl,hf3⟩
 conv=>whnf
 cases h:decide ((i:Int)<(o.lines.length:Int))
 ·obtain rfl:=L5 h hi
  generalize A5k o o.lines.length=Z at *
  conv=>whnf
  refine K9 (A0 ..) hf3 ?_
  refine stW (by rw [A5 h23];exact A0 ..) rfl ?_
  refine K9 (A0 ..) (B4 ..) ?_
  exact ⟨rfl,((hs2.upd hb3).over hb2)⟩
 have hi':=X4 h
 have hkx:=A1r (hk (o.lines.getD (i:Int).toNat default) (A7 hi'))
 obtain ⟨-,-,k1,k2,k3,k4⟩:=hkx
 have c1:=fun s=>B0y (o.lines.getD (i:Int).toNat default).goods (o.lines.getD (i:Int).toNat default).sold (o.lines.getD (i:Int).toNat default).left k3 k1 k2 s
 have c2:=fun s=>B0y (o.lines.getD (i:Int).toNat default).tax (o.lines.getD (i:Int).toNat default).sold (o.lines.getD (i:Int).toNat default).left k4 k1 k2 s
 have hin:=B5B hl hk i
 have u1:=A0d k3.1 k1.1 k2.1 k2.2
 have u2:=A0d k4.1 k1.1 k2.1 k2.2
 have sg:shG (o.lines.take (i+1))=shG (o.lines.take i)+L9 (o.lines.getD (i:Int).toNat default).goods (o.lines.getD (i:Int).toNat default).sold (o.lines.getD (i:Int).toNat default).left:=K3 hi' _ _
 have stt:shT (o.lines.take (i+1))=shT (o.lines.take i)+L9 (o.lines.getD (i:Int).toNat default).tax (o.lines.getD (i:Int).toNat default).sold (o.lines.getD (i:Int).toNat default).left:=K3 hi' _ _
 have sa:O7 (o.lines.take (i+1))=(O7 (o.lines.take i)||decide ((o.lines.getD (i:Int).toNat default).left>0)):=A9q hi'
 have w1:IntKind.i64.wrap (shG (o.lines.take i)+L9 (o.lines.getD (i:Int).toNat default).goods (o.lines.getD (i:Int).toNat default).sold (o.lines.getD (i:Int).toNat default).left)=shG (o.lines.take (i+1)):=by rw [sg];exact A6 (by omega) (by omega)
 have w2:IntKind.i64.wrap (shT (o.lines.take i)+L9 (o.lines.getD (i:Int).toNat default).tax (o.lines.getD (i:Int).toNat default).sold (o.lines.getD (i:Int).toNat default).left)=shT (o.lines.take (i+1)):=by rw [stt];exact A6 (by omega) (by omega)
 have hN:A5k o (i+1)=⟨shG (o.lines.take (i+1)),shT (o.lines.take (i+1)),if O7 (o.lines.take (i+1))=true then o.ship else 0,if O7 (o.lines.take (i+1))=true then o.shipTax else 0,0⟩:=rfl
 have hZ:A5k o i=⟨shG (o.lines.take i),shT (o.lines.take i),if O7 (o.lines.take i)=true then o.ship else 0,if O7 (o.lines.take i)=true then o.shipTax else 0,0⟩:=rfl
 rw [sa] at hN
 rw [hZ] at hf3
 generalize shG (o.lines.take (i+1))=G1 at *
 generalize shT (o.lines.take (i+1))=T1 at *
 generalize shG (o.lines.take i)=G0 at *
 generalize shT (o.lines.take i)=T0 at *
 generalize O7 (o.lines.take i)=a0 at *
 generalize L9 (o.lines.getD (i:Int).toNat default).goods (o.lines.getD (i:Int).toNat default).sold (o.lines.getD (i:Int).toNat default).left=Y1 at *
 generalize L9 (o.lines.getD (i:Int).toNat default).tax (o.lines.getD (i:Int).toNat default).sold (o.lines.getD (i:Int).toNat default).left=Y2 at *
 clear hin u1 u2 sg stt sa hZ
 conv=>whnf
 refine I8 ?_
 refine J0 (c1 _) ?_
 refine J0 (c2 _) ?_
 refine K9 (A0 ..) hf3 ?_
 rw [w1]
 refine stU (A0 ..) hf3 ?_
 rw [I2];conv=>whnf
 refine K9 (A0 ..) (B4 ..) ?_
 rw [w2]
 refine stU (A0 ..) (B4 ..) ?_
 rw [I2];conv=>whnf
 refine B7 (fun h5=>?_) (fun h5=>?_)<;>rw [h5] at hN ⊢
 ·rw [D0d] at hN;conv=>whnf
  refine .inr ⟨[5,7],.qui 0 (.qui 1 (.qui 2 (.qui 3 (.qui 4 (.eff 5 [3] (.qui 6 (.eff 7 [] (.done)))))))),by kernel_rfl,?_⟩;conv=>whnf
  refine ⟨_,fun _=>True,trivial,fun s _=>⟨rfl,rfl⟩,?_⟩;conv=>whnf
  refine ⟨_,fun _=>True,trivial,fun s _=>⟨rfl,rfl⟩,?_⟩;conv=>whnf
  refine stU (A0 ..) (B4 ..) ?_
  rw [I2];conv=>whnf
  refine ⟨fun _=>trivial,?_⟩;conv=>whnf
  refine stU (A0 ..) (B4 ..) ?_
  rw [I2];conv=>whnf
  refine I9 ?_
  exact nx hi' ⟨by rw [C1 (by omega)],_,rfl,by rw [B4,hN];rfl⟩
 ·rw [C9X] at hN;conv=>whnf
  refine I9 ?_
  exact nx hi' ⟨by rw [C1 (by omega)],_,rfl,by rw [B4,hN];rfl⟩
end Go.Proofs.YtaapofnkmpiknaaGreat
namespace Go.Ab
open Go
theorem B5r {w:World} {st st':St} (h:∀ b,st b=none↔st' b=none):A0y w st=A0y w st':=by
 funext a
 unfold A0y
 cases h1:st a.block with
 | none=>rw [(h _).1 h1]
 | some x =>
  cases h2:st' a.block with
  | none=>rw [(h _).2 h2] at h1;cases h1
  | some y=>rfl
theorem A4.cellG {vs:List AV} {st st2:St} {a i:Nat} {y:H1} {sv v' w':AV} {pre post:List AV} (h:A4 [sv] st [v'] st2) (hy:st a=some y) (hy2:st2 a=some y) (hi:i<y.n)
  (hf:A2 (y.f i)=pre++sv::post) (hw:A2 w'=pre++v'::post) (h1:v'.one=true):A4 vs st vs (upd st2 a { y with f:=G8 y.f i w' }):=fun w cs hS hR=>by
 obtain ⟨ds,hok⟩:=hS a y hy
 obtain ⟨c,hc1,hc2⟩:=hok.cell i pre.length sv hi (by rw [hf];show (pre++sv::post)[pre.length]?=some sv;simp)
 obtain ⟨hS2,hR2,hE⟩:=h w #[c] hS ⟨rfl,fun k z c' hz hc'=>by
  cases k with
  | zero=>simp at hz hc';subst hz;subst hc';exact hc2
  | succ k=>simp at hz⟩
 have hv:G5 w st2 v' c:=hR2.2 0 v' c rfl rfl
 have e:A0y w (upd st2 a { y with f:=G8 y.f i w' })=A0y w st2:=B5r fun b=>by
  by_cases eb:b=a
  ·subst eb;rw [A0,hy2];constructor<;>(intro h0;cases h0)
  ·rw [A5 eb]
 have hrep:∀ v c,G5 w st2 v c→G5 w (upd st2 a { y with f:=G8 y.f i w' }) v c:=fun v c hv=>by
  show Rep (A0y w _) _ _ _
  rw [e];exact hv
 refine ⟨fun b x hb=>?_,⟨hR.1,fun k y c hy hc=>hrep _ _ (hE.rep (hR.2 k y c hy hc))⟩,⟨hE.os,hE.tape,hE.output,hE.size,fun b hb hn=>⟨(hE.blk b hb hn).1,?_⟩,hE.szm⟩⟩
 ·by_cases eb:b=a
  ·subst eb
   rw [A0] at hb;cases hb
   obtain ⟨ds2,hok2⟩:=hS2 b y hy2
   have hds:ds2=ds:=by
    have h3:=hok2.heap
    rw [hok.heap] at h3
    cases h3;rfl
   subst hds
   have hlen:=hok2.len i hi
   have hone:=hok2.one i hi
   rw [hf] at hlen hone
   refine ⟨ds2,hok2.heap,hok2.size,fun k hk=>?_,fun k hk=>?_,fun k m z hk hz=>?_⟩
   ·by_cases ek:k=i
    ·subst ek
     show (A2 (G8 y.f k _ k)).length=y.e
     unfold G8;rw [if_pos rfl,←hlen]
     show (A2 w').length=(pre++sv::post).length
     rw [hw]
     simp
    ·show (A2 (G8 y.f i _ k)).length=y.e
     unfold G8;rw [if_neg ek];exact hok2.len k hk
   ·by_cases ek:k=i
    ·subst ek
     show (A2 (G8 y.f k _ k)).all AV.one=true
     unfold G8;rw [if_pos rfl]
     have hone':(pre++sv::post).all AV.one=true:=hone
     show (A2 w').all AV.one=true
     rw [hw]
     simp only [List.all_append,List.all_cons,C9l] at hone' ⊢
     exact ⟨hone'.1,h1,hone'.2.2⟩
    ·show (A2 (G8 y.f i _ k)).all AV.one=true
     unfold G8;rw [if_neg ek];exact hok2.one k hk
   ·have hz:(A2 (G8 y.f i w' k))[m]?=some z:=hz
    unfold G8 at hz
    by_cases ek:k=i
    ·subst ek
     rw [if_pos rfl] at hz
     have hz:(pre++v'::post)[m]?=some z:=by rw [←hw];exact hz
     by_cases em:m=pre.length
     ·subst em
      simp at hz
      subst hz
      exact ⟨c,hc1,hrep _ _ hv⟩
     ·have e3:(pre++sv::post)[m]?=some z:=by
       rw [←hz]
       by_cases hm:m<pre.length
       ·rw [C9z hm,C9z hm]
       ·rw [C9B (by omega),C9B (by omega)]
        obtain ⟨q,hq⟩:∃ q,m - pre.length=q+1:=⟨m - pre.length - 1,by omega⟩
        rw [hq];rfl
      obtain ⟨c',k1,k2⟩:=hok2.cell k m z hk (by rw [hf];exact e3)
      exact ⟨c',k1,hrep _ _ k2⟩
    ·rw [if_neg ek] at hz
     obtain ⟨c',k1,k2⟩:=hok2.cell k m z hk hz
     exact ⟨c',k1,hrep _ _ k2⟩
  ·rw [A5 eb] at hb
   obtain ⟨ds2,hok2⟩:=hS2 b x hb
   exact ⟨ds2,hok2.heap,hok2.size,hok2.len,hok2.one,fun k m z hk hz=>by
    obtain ⟨c',k1,k2⟩:=hok2.cell k m z hk hz
    exact ⟨c',k1,hrep _ _ k2⟩⟩
 ·have:=(hE.blk b hb hn).2
  have eb:b≠a:=fun h=>by rw [h,hy] at hn;cases hn
  rw [A5 eb];exact this
theorem A4.cell {vs:List AV} {st st2:St} {a i:Nat} {y:H1} {sv v':AV} {pre post:List AV} (h:A4 [sv] st [v'] st2) (hy:st a=some y) (hy2:st2 a=some y) (hi:i<y.n)
  (hf:y.f i=.agg (pre++sv::post)) (h1:v'.one=true):A4 vs st vs (upd st2 a { y with f:=G8 y.f i (.agg (pre++v'::post)) }) :=
 A4.cellG h hy hy2 hi (by rw [hf];rfl) rfl h1
inductive At {α : Type}:List α→Nat→α→Prop
 | z {a : α} {l:List α}:At (a::l) 0 a
 | s {a b : α} {l:List α} {n:Nat} (h:At l n a):At (b::l) (n+1) a
def Has (s:St) (b:Nat) (y:H1):Prop:=∃ g,s b=some ⟨y.ty,y.e,y.n,g⟩∧∀ k,k<y.n→g k=y.f k
def C8 (st:St):List (Nat×H1)→St→Prop
 | [],s=>E9 st s
 | x::L,s=>(x.2.n=0∨(st x.1=none∧Has s x.1 x.2∧∀ j p,At L j p→p.2.n=0∨p.1≠x.1))∧C8 st L s
theorem C8.sup {st:St}:∀ {L:List (Nat×H1)} {s:St},C8 st L s→E9 st s
 | [],_,h=>h
 | _::_,_,h=>C8.sup h.2
theorem C8.get {st s:St}:∀ {L:List (Nat×H1)} {j:Nat} {p:Nat×H1},C8 st L s→At L j p→p.2.n=0∨(st p.1=none∧Has s p.1 p.2)
 | _,_,_,h,.z=>h.1.imp id fun h=>⟨h.1,h.2.1⟩
 | _,_,_,h,.s k=>C8.get h.2 k
theorem C8.other {st s:St} {L:List (Nat×H1)} (h:C8 st L s) {b:Nat} (hb:s b=none) (j:Nat) (p:Nat×H1) (hp:At L j p):p.2.n=0∨p.1≠b :=
 (h.get hp).imp id fun ⟨_,g,hg,_⟩ e=>by subst e;rw [hb] at hg;cases hg
theorem C8.frame {st s s':St}:∀ {L:List (Nat×H1)},C8 st L s→E9 st s'→(∀ j p,At L j p→p.2.n=0∨s' p.1=s p.1)→C8 st L s'
 | [],_,hs,_=>hs
 | x::L,h,hs,hf=>⟨h.1.elim .inl fun ⟨h1,⟨g,h2,h3⟩,h4⟩=>(hf 0 x .z).imp id fun e=>⟨h1,⟨g,e.trans h2,h3⟩,h4⟩,C8.frame h.2 hs fun j p hp=>hf (j+1) p (.s hp)⟩
theorem C8.new {st s:St} {L:List (Nat×H1)} (h:C8 st L s) {b:Nat} (hb:s b=none) (y:H1):C8 st ((b,y)::L) (upd s b y) :=
 ⟨.inr ⟨h.sup.none hb,⟨y.f,A0 ..,fun _ _=>rfl⟩,h.other hb⟩,h.frame (h.sup.upd hb) fun j p hp=>(h.other hb j p hp).imp id A5⟩
theorem C8.new' {st s s':St} {L:List (Nat×H1)} {b:Nat} {y:H1} (hs:upd s b y=s') (h:C8 st L s) (hb:s b=none):C8 st ((b,y)::L) s':=hs▸h.new hb y
theorem C8.soft {st s:St} {L:List (Nat×H1)} (h:C8 st L s) (b ty e:Nat) (f:Nat→AV):C8 st ((b,⟨ty,e,0,f⟩)::L) s:=⟨.inl rfl,h⟩
theorem At.of_set {α : Type}:∀ {L:List α} {j i:Nat} {p q : α},At (L.set j q) i p→p=q∨∃ i,At L i p
 | _::_,0,_,_,_,.z=>.inl rfl
 | _::_,0,_,_,_,.s k=>.inr ⟨_,.s k⟩
 | _::_,_+1,_,_,_,.z=>.inr ⟨_,.z⟩
 | _::_,_+1,_,_,_,.s k=>(At.of_set k).imp id fun ⟨_,h⟩=>⟨_,.s h⟩
theorem C8.chg {st s s':St} {b b':Nat} {y y':H1} (hS:E9 st s') (hst:st b'=none) (hH:Has s' b' y') (ho:∀ c x,(y.n=0∨c≠b)→s c=some x→s' c=some x∧c≠b') :
  ∀ {L:List (Nat×H1)} {j:Nat},C8 st L s→At L j (b,y)→C8 st (L.set j (b',y')) s'
 | _::L,_,h,.z=>by
  have ho':∀ j p,At L j p→p.2.n=0∨(s' p.1=s p.1∧p.1≠b'):=fun j p hp=>by
   rcases h.2.get hp with h0 | ⟨_,g,hg,_⟩
   ·exact .inl h0
   ·rcases h.1 with h1 | h1
    ·obtain ⟨e1,e2⟩:=ho _ _ (.inl h1) hg
     exact .inr ⟨e1.trans hg.symm,e2⟩
    ·rcases h1.2.2 j p hp with h0 | h0
     ·exact .inl h0
     ·obtain ⟨e1,e2⟩:=ho _ _ (.inr h0) hg
      exact .inr ⟨e1.trans hg.symm,e2⟩
  exact ⟨.inr ⟨hst,hH,fun j p hp=>(ho' j p hp).imp id And.right⟩,h.2.frame hS fun j p hp=>(ho' j p hp).imp id And.left⟩
 | x::L,_,h,.s k=>by
  refine ⟨?_,C8.chg hS hst hH ho h.2 k⟩
  rcases h.1 with h0 | ⟨h1,⟨g,h2,h3⟩,h4⟩
  ·exact .inl h0
  ·obtain ⟨e1,e2⟩:=ho _ _ ((h4 _ _ k).imp id Ne.symm) h2
   refine .inr ⟨h1,⟨g,e1,h3⟩,fun j p hp=>?_⟩
   rcases At.of_set hp with rfl | ⟨i,hi⟩
   ·exact .inr (Ne.symm e2)
   ·exact h4 i p hi
theorem C8.put {st s:St} {L:List (Nat×H1)} {j b:Nat} {y y':H1} (h:C8 st L s) (k:At L j (b,y)) (hn:0<y.n) {g:Nat→AV} (hg:∀ k,k<y'.n→g k=y'.f k):C8 st (L.set j (b,y')) (upd s b ⟨y'.ty,y'.e,y'.n,g⟩):=by
 have h1:=((h.get k).resolve_left (by show ¬ y.n=0;omega)).1
 exact C8.chg (h.sup.over h1) h1 ⟨g,A0 ..,hg⟩ (fun c x hc hx=>by
  have hc:=hc.resolve_left (by omega)
  exact ⟨(A5 hc).trans hx,hc⟩) h k
theorem At.of_erase {α : Type}:∀ {L:List α} {j i:Nat} {p : α},At (L.eraseIdx j) i p→∃ i,At L i p
 | _::_,0,_,_,k=>⟨_,.s k⟩
 | _::_,_+1,_,_,.z=>⟨_,.z⟩
 | _::_,_+1,_,_,.s k=>let ⟨_,h⟩:=At.of_erase k;⟨_,.s h⟩
theorem C8.drop {st s:St}:∀ {L:List (Nat×H1)} (j:Nat),C8 st L s→C8 st (L.eraseIdx j) s
 | [],_,h=>h
 | _::_,0,h=>h.2
 | _::_,j+1,h=>⟨h.1.imp id fun h=>⟨h.1,h.2.1,fun i p hp=>let ⟨_,hq⟩:=At.of_erase hp;h.2.2 _ p hq⟩,C8.drop j h.2⟩
theorem C8.apart {st s:St} {b:Nat} {y:H1} (hn:0<y.n):∀ {L:List (Nat×H1)} {j:Nat},C8 st L s→At L j (b,y)→∀ i p,At (L.eraseIdx j) i p→p.2.n=0∨p.1≠b
 | _::_,_,h,.z,i,p,hp=>(h.1.resolve_left (by show ¬ y.n=0;omega)).2.2 i p hp
 | _::_,_,h,.s k,_,_,.z=>h.1.imp id fun h=>((h.2.2 _ _ k).resolve_left (by show ¬ y.n=0;omega)).symm
 | _::_,_,h,.s k,_,_,.s hp=>C8.apart hn h.2 k _ _ hp
theorem C8.zero {st s:St} {b b':Nat} {y y':H1} (hy:y'.n=0):∀ {L:List (Nat×H1)} {j:Nat},C8 st L s→At L j (b,y)→C8 st (L.set j (b',y')) s
 | _::_,_,h,.z=>⟨.inl hy,h.2⟩
 | _::_,_,h,.s k=>⟨h.1.imp id fun h=>⟨h.1,h.2.1,fun i p hp=>by
   rcases At.of_set hp with rfl | ⟨i,hi⟩
   ·exact .inl hy
   ·exact h.2.2 i p hi⟩,C8.zero hy h.2 k⟩
theorem C8.as {st s:St} {L:List (Nat×H1)} {j b ty e n:Nat} {f:Nat→AV} (f':Nat→AV) (h:C8 st L s) (k:At L j (b,⟨ty,e,n,f⟩)) (hf:∀ k,k<n→f k=f' k):C8 st (L.set j (b,⟨ty,e,n,f'⟩)) s:=by
 rcases D0K n with h0 | h0
 ·exact C8.zero h0 h k
 ·obtain ⟨h1,g,hg,hh⟩:=(h.get k).resolve_left (by show ¬ n=0;omega)
  have:=h.put (y':=⟨ty,e,n,f'⟩) k h0 (g:=g) fun i hi=>(hh i hi).trans (hf i hi)
  rwa [upd_self' hg] at this
where
 upd_self' {st:St} {a:Nat} {x:H1} (h:st a=some x):upd st a x=st:=funext fun c=>by
  unfold upd;split
  ·rename_i e;subst e;exact h.symm
  ·rfl
def OV (e b n:Nat) (v:AV):Prop:=(n=0∧v=.emp)∨(0<n∧v=.own e b 0 n)
theorem OV.nil (e b:Nat):OV e b 0 .emp:=.inl ⟨rfl,rfl⟩
theorem OV.one {e b n:Nat} {v:AV} (h:OV e b n v):v.one=true:=by rcases h with ⟨_,rfl⟩ | ⟨_,rfl⟩<;>rfl
theorem OV.own {e b n:Nat} {v:AV} (h:OV e b n v) (hn:0<n):v=.own e b 0 n:=h.elim (fun h=>by omega) And.right
theorem C6A {rd:Addr→Option Value} {sz:Nat→Nat} {e b off:Nat} {c:Value} (f:Nat→AV) (h:Rep rd sz (.own e b off 0) c):Rep rd sz (.arr e 0 f) c:=by
 cases h with
 | own e b off n c hc hs=>exact .arr e 0 f _ c (fun _ _=>undef) (C9v _) (fun h=>absurd h (by omega)) (fun i hi=>absurd hi (by omega)) (fun i hi=>absurd hi (by omega)) (fun _ _ i j hi=>absurd hi (by omega)) (fun i j y hi=>absurd hi (by omega))
theorem C8.frzO {st s:St} {L:List (Nat×H1)} {j b ty e n:Nat} {f:Nat→AV} (h:C8 st L s) (k:At L j (b,⟨ty,e,n,f⟩)):∃ s',C8 st (L.eraseIdx j) s'∧A4 [.own e b 0 n] s [.arr e n f] s':=by
 rcases D0K n with h0 | h0
 ·subst h0
  exact ⟨s,h.drop j,Le.shift (fun rd sz c hr=>C6A f hr) s⟩
 ·obtain ⟨h1,g,hg,hh⟩:=(h.get k).resolve_left (by show ¬ n=0;omega)
  refine ⟨del s b,(h.drop j).frame (h.sup.del h1) fun i p hp=>(h.apart h0 k i p hp).imp id fun hne=>?_,K1 hg rfl (C9q _) hh⟩
  unfold del;rw [if_neg hne]
def LV (e b n:Nat) (v:AV):Prop:=(n=0∧(v=.emp∨v=.own e b 0 0))∨(0<n∧v=.own e b 0 n)
theorem LV.own {e b n:Nat} {v:AV} (h:LV e b n v) (hn:0<n):v=.own e b 0 n:=h.elim (fun h=>by omega) And.right
theorem LV.one {e b n:Nat} {v:AV} (h:LV e b n v):v.one=true:=by rcases h with ⟨_,rfl | rfl⟩ | ⟨_,rfl⟩<;>rfl
theorem LV.of (e b n:Nat):LV e b n (.own e b 0 n):=by
 rcases D0K n with rfl | h
 ·exact .inl ⟨rfl,.inr rfl⟩
 ·exact .inr ⟨h,rfl⟩
theorem OV.lv {e b n:Nat} {v:AV} (h:OV e b n v):LV e b n v:=h.imp (fun h=>⟨h.1,.inl h.2⟩) id
theorem C8.fin {st s:St} {L:List (Nat×H1)} (h:C8 st L s) (vs:List AV):A4 vs s vs st:=h.sup.shift vs
def B8d:List (Nat×H1)→Nat→Nat×H1→(List (Nat×H1)→Prop)→Prop
 | [],_,_,k=>k []
 | _::l,0,x,k=>k (x::l)
 | a::l,n+1,x,k=>B8d l n x fun l'=>k (a::l')
theorem B0g:∀ (l:List (Nat×H1)) (n:Nat) (x:Nat×H1) (k:List (Nat×H1)→Prop),B8d l n x k=k (l.set n x)
 | [],_,_,_=>rfl
 | _::_,0,_,_=>rfl
 | _::l,n+1,x,_=>B0g l n x _
def B7Q (v:AV) (o:Nat) (us:List AV) (k:AV→Prop):Prop :=
 match v with
 | .agg cs=>(match Nat.ble (o+us.length) cs.length with | true=>A3w cs o us fun r=>k (.agg r) | false=>False)
 | _=>(match us with | []=>False | u::_=>k u)
theorem B4g {v:AV} {o:Nat} {us:List AV} {k:AV→Prop} (h:B7Q v o us k):k (I5 v o us):=by
 unfold B7Q at h
 split at h
 ·split at h
  ·rename_i hb
   rw [A4j _ _ _ _ (by simpa using hb)] at h;exact h
  ·exact h.elim
 ·rename_i hv
  split at h
  ·exact h.elim
  ·unfold I5
   split
   ·rename_i ds;exact absurd rfl (hv ds)
   ·exact h
theorem C8.has1 {st s:St} {L:List (Nat×H1)} {j b ty e:Nat} {f:Nat→AV} (h:C8 st L s) (hj:At L j (b,⟨ty,e,1,f⟩)):Has s b ⟨ty,e,1,f⟩:=((h.get hj).resolve_left (by show ¬ 1=0;omega)).2
theorem O8 {T:C7} {t:TypeId} {e b i o ty n j:Nat} {st s:St} {L:List (Nat×H1)} {k:KK} {r:B5} {f:Nat→AV} {v:AV} (h:C8 st L s) (hj:At L j (b,⟨ty,e,n,f⟩)) (hr:T t=some r) (hi:i<n) (hv:f i=v)
  (hk:A5d r (A2 v) o (fun y=>k y s)):B6g T t e b i o s k:=by
 obtain ⟨_,g,hg,hh⟩:=(h.get hj).resolve_left (by show ¬ n=0;omega)
 exact ldV hg hr hi ((hh i hi).trans hv) hk
theorem C6y {T:C7} {t:TypeId} {e b i o ty n j:Nat} {st s:St} {L:List (Nat×H1)} {k:KK} {r:B5} {f:Nat→AV} {u v:AV} (h:C8 st L s) (hj:At L j (b,⟨ty,e,n,f⟩)) (hr:T t=some r) (hi:i<n) (hv:f i=v)
  (hc:(Nat.blt 0 r.size&&Nat.beq (A2 u).length r.size&&(A2 u).all AV.one&&Nat.ble (o+r.size) e)=true)
  (hk:B7Q v o (A2 u) fun w=>B8d L j (b,⟨ty,e,n,G8 f i w⟩) fun L'=>∀ s',C8 st L' s'→k (.tuple []) s'):B2a T t e b i o u s k:=by
 obtain ⟨_,g,hg,hh⟩:=(h.get hj).resolve_left (by show ¬ n=0;omega)
 have hk:=B4g hk
 rw [B0g] at hk
 refine stV hg hr hi ((hh i hi).trans hv) hc (hk _ (h.put (y':=⟨ty,e,n,G8 f i _⟩) hj (by show 0<n;omega) fun m hm=>?_))
 by_cases hm':m=i
 ·subst hm';rw [B4];exact (B4 ..).symm
 ·rw [J1 hm',hh m hm];exact (J1 hm').symm
theorem L1 {T:C7} {t:TypeId} {e b o ty j:Nat} {st s:St} {L:List (Nat×H1)} {k:KK} {r:B5} {f:Nat→AV} {u v:AV} (h:C8 st L s) (hj:At L j (b,⟨ty,e,1,f⟩)) (hr:T t=some r) (hv:f 0=v)
  (hc:(Nat.blt 0 r.size&&Nat.beq (A2 u).length r.size&&(A2 u).all AV.one&&Nat.ble (o+r.size) e)=true)
  (hk:B7Q v o (A2 u) fun w=>B8d L j (b,⟨ty,e,1,fun _=>w⟩) fun L'=>∀ s',C8 st L' s'→k (.tuple []) s'):B2a T t e b 0 o u s k:=by
 obtain ⟨_,g,hg,hh⟩:=(h.get hj).resolve_left (by show ¬ 1=0;omega)
 have hk:=B4g hk
 rw [B0g] at hk
 refine stV hg hr (by show 0<1;omega) ((hh 0 (by show 0<1;omega)).trans hv) hc (hk _ (h.put (y':=⟨ty,e,1,fun _=>_⟩) hj (by show 0<1;omega) fun m hm=>?_))
 obtain rfl:m=0:=by have:m<1:=hm;omega
 exact B4 ..
theorem A7r {u:AV} (hu:u.one=true):A2 u=[u]:=by cases u<;>first | rfl | cases hu
theorem B9H {u:AV} (hu:u.one=true) {r:B5} {o e:Nat} (h1:r.size=1) (ho:o+1≤e):(Nat.blt 0 r.size&&Nat.beq (A2 u).length r.size&&(A2 u).all AV.one&&Nat.ble (o+r.size) e)=true:=by
 rw [A7r hu,h1]
 simp [hu,ho,Nat.blt]
theorem C6u {u:AV} {r:B5} {o e:Nat} (h1:(Nat.blt 0 r.size&&Nat.beq (A2 u).length r.size&&Nat.ble (o+r.size) e)=true) (h2:(A2 u).all AV.one=true):(Nat.blt 0 r.size&&Nat.beq (A2 u).length r.size&&(A2 u).all AV.one&&Nat.ble (o+r.size) e)=true:=by
 rw [h2,D0n];exact h1
theorem C6z {T:C7} {t:TypeId} {e b o ty j:Nat} {st s:St} {L:List (Nat×H1)} {k:KK} {r:B5} {f:Nat→AV} {u v:AV} (h:C8 st L s) (hj:At L j (b,⟨ty,e,1,f⟩)) (hr:T t=some r) (hv:f 0=v) (h1:r.size=1) (hu:u.one=true) (ho:o+1≤e)
  (hk:B7Q v o [u] fun w=>B8d L j (b,⟨ty,e,1,fun _=>w⟩) fun L'=>∀ s',C8 st L' s'→k (.tuple []) s'):B2a T t e b 0 o u s k :=
 L1 h hj hr hv (B9H hu h1 ho) (by rw [A7r hu];exact hk)
theorem C8.up {st s s':St} {L:List (Nat×H1)} (h:C8 st L s) (hS:E9 s s'):C8 st L s':=h.frame (h.sup.trans hS) fun j p hp=>(h.get hp).imp id fun ⟨_,g,hg,_⟩=>(hS _ _ hg).trans hg.symm
theorem C8.got {st s s':St} {L:List (Nat×H1)} {b:Nat} {y:H1} (h:C8 st L s) (hb:s b=none) (hS:E9 s s') (hH:Has s' b y):C8 st ((b,y)::L) s':=⟨.inr ⟨h.sup.none hb,hH,h.other hb⟩,h.up hS⟩
theorem At.of_append {α : Type}:∀ {L M:List α} {j:Nat} {p : α},At (L++M) j p→(∃ i,At L i p)∨∃ i,At M i p
 | [],_,_,_,h=>.inr ⟨_,h⟩
 | _::_,_,_,_,.z=>.inl ⟨_,.z⟩
 | _::_,_,_,_,.s h=>(At.of_append h).imp (fun ⟨_,h⟩=>⟨_,.s h⟩) id
theorem C8.trans {st s s':St} {L:List (Nat×H1)} (h:C8 st L s):∀ {M:List (Nat×H1)},C8 s M s'→C8 st (M++L) s'
 | [],k=>h.up k
 | x::M,k=>by
  refine ⟨k.1.imp id fun ⟨h1,h2,h3⟩=>⟨h.sup.none h1,h2,fun j p hp=>?_⟩,h.trans k.2⟩
  rcases At.of_append hp with ⟨i,hi⟩ | ⟨i,hi⟩
  ·exact h3 i p hi
  ·exact h.other h1 i p hi
theorem A0U (st:St):C8 st [] st:=E9.refl st
theorem C8.has {st s:St} {L:List (Nat×H1)} {j b:Nat} {y:H1} (h:C8 st L s) (hj:At L j (b,y)) (hn:0<y.n):Has s b y:=((h.get hj).resolve_left (by show ¬ y.n=0;omega)).2
theorem quT {v:AV} {s:St} {Q:AV→St→Prop} {K:AV→(St→Prop)→Prop} (hQ:∀ s',Q v s') (hk:K v fun _=>True):∃ (v:AV) (C:St→Prop),C s∧(∀ s',C s'→Q v s')∧K v C:=⟨v,_,trivial,fun s' _=>hQ s',hk⟩
theorem quL {v:AV} {s:St} {Q:AV→St→Prop} {K:AV→(St→Prop)→Prop} {b:Nat} {y:H1} (hC:Has s b y) (hQ:∀ s',Has s' b y→Q v s') (hk:K v fun u=>Has u b y):∃ (v:AV) (C:St→Prop),C s∧(∀ s',C s'→Q v s')∧K v C:=⟨v,_,hC,hQ,hk⟩
theorem B7c {T:C7} {t:TypeId} {e b i o ty n:Nat} {s:St} {k:KK} {r:B5} {f:Nat→AV} {x:AV} (h:Has s b ⟨ty,e,n,f⟩) (hr:T t=some r) (hi:i<n) (hv:f i=x) (hk:A5d r (A2 x) o (fun y=>k y s)):B6g T t e b i o s k:=by
 obtain ⟨g,hg,hh⟩:=h
 exact ldV hg hr hi ((hh i hi).trans hv) hk
end Go.Ab
namespace Go.Proofs.YtaapofnkmpiknaaGreat
open Go Go.Ab
attribute [local irreducible] upd del
def B1a (r:D4) (o:D6):AV:=.agg [B0 4 H2 r.items,B0 15 B9 r.promos,eB r.tax.incl,eB r.tax.byOrder,eI r.tax.round,B0 4 X1 r.tax.zones,eI r.ship.fee,eI r.ship.free,eI r.policy.window,eI r.policy.grace,eI r.policy.mode,eI r.policy.restock,B2 r.policy.order,B2 r.policy.credit,
 eS o.id,eI o.rules,eS o.zone,eB o.exempt,E3 o.codes,eI o.day,B0 6 R6 o.lines,eI o.ship,eI o.shipTax,eI o.fee,eI o.net,eI o.book.goods,eI o.book.tax,eI o.book.ship,eI o.book.shipTax,eI o.book.fee,B0 3 A0a o.tenders]
def A1g:Z6:=⟨0,0,0,0,0⟩
def B0z (q:A0k) (e:Int):Z6×Int:=if e≠0 then (A1g,e) else (B3y q,0)
def A5b (b:Z6) (f:Int):Z6:=⟨b.goods,b.tax,b.ship,b.shipTax,f⟩
def A0G (r:D4) (o:D6) (q:A0k) (e:Int):Z6×Int:=if r.policy.mode=3 then (A4U o,0) else B0z q e
def A6F (r:D4) (o:D6) (q:A0k) (e:Int):Z6×Int :=
 if J4 r=false then (A1g,10) else if H7 o=false then (A1g,2) else if (A0G r o q e).2≠0 then (A1g,(A0G r o q e).2)
  else if A1P (A5b (A0G r o q e).1 o.fee)=false then (A1g,5) else (A5b (A0G r o q e).1 o.fee,0)
structure B2c (f:FuncId) (r:D4) (o:D6) (q:A0k) (e:Int):Prop where
 call:∀ s,S P f [M0 r,eS o.zone,eB o.exempt,E3 o.codes,B0 3 M2 (A8M o)] s fun v s'=>v=.tuple [A7b q,eI e]∧s'=s
 goods:I0 q.goods
 taxes:I0 q.taxes
theorem B5t (r:D4) (o:D6) (q:A0k) (e:Int) (hq:B2c 60 r o q e) (hl:o.lines.length≤100000) (st:St):S P 93 [B1a r o] st fun v st'=>v=.tuple [A0O (B0z q e).1,eI (B0z q e).2]∧st'=st:=by
 have n1:=fun s=>B7X o hl s
 have n2:=hq.call
 have n3:=fun s=>C0V q hq.goods hq.taxes s
 rw [show B0z q e=if e≠0 then (A1g,e) else (B3y q,0) from rfl]
 refine A1k ?_
 refine A1G [1] A7d mixed Tryz.func93 (by rfl) rfl rfl rfl ?_;conv=>whnf
 intro b hb
 generalize hs:(upd st b _:St)=w
 have h:=C8.new' hs (A0U st) hb
 clear hs hb
 conv=>whnf
 refine .inl ⟨[18,19],[1,4,7,10,12,13,14],List.range 21,by kernel_rfl,?_⟩
 repeat' ((conv=>whnf);first | refine ⟨_,fun s _=>⟨rfl,rfl⟩,?_⟩ | refine ⟨_,fun s _=>A3H (n1 s),?_⟩ | refine ⟨_,fun s _=>A3H (n2 s),?_⟩ | fail)
 conv=>whnf
 intro b4 hb4
 generalize hs:(upd w b4 _:St)=w4
 have h:=C8.new' hs h hb4
 clear hs hb4
 conv=>whnf
 refine L1 h .z rfl rfl (by rfl) ?_;conv=>whnf
 intro w h;conv=>whnf
 cases he:(e != 0)
 case true =>
  have he:e≠0:=by simpa using he
  rw [if_pos he];conv=>whnf
  refine L1 h (.s .z) rfl rfl (by rfl) ?_;conv=>whnf
  intro w h;conv=>whnf
  refine O8 h (.s .z) rfl Nat.one_pos rfl ?_;conv=>whnf
  exact ⟨rfl,h.sup⟩
 rw [if_neg (by simpa using he)];conv=>whnf
 refine O8 h .z rfl Nat.one_pos rfl ?_;conv=>whnf
 refine J0 (n3 _) ?_
 refine L1 h (.s .z) rfl rfl (by rfl) ?_;conv=>whnf
 intro w h;conv=>whnf
 refine O8 h (.s .z) rfl Nat.one_pos rfl ?_;conv=>whnf
 exact ⟨rfl,h.sup⟩
theorem B5o (r:D4) (o:D6) (hs:A3F o) (st:St):S P 94 [B1a r o] st fun v st'=>v=.tuple [A0O (A4U o),eI 0]∧st'=st:=by
 have n1:=fun s=>B5y o hs s
 refine A1k ?_
 refine A1G [1] A7d mixed Tryz.func94 (by rfl) rfl rfl rfl ?_;conv=>whnf
 intro b hb
 generalize hs:(upd st b _:St)=w
 have h:=C8.new' hs (A0U st) hb
 clear hs hb
 conv=>whnf
 refine J0 (n1 _) ?_
 refine L1 h .z rfl rfl (by rfl) ?_;conv=>whnf
 intro w h;conv=>whnf
 refine O8 h .z rfl Nat.one_pos rfl ?_;conv=>whnf
 exact ⟨rfl,h.sup⟩
theorem B9m {cells:List AV} {i:Nat} {v:AV} {k:AV→Prop} (h:cells[i]?=some v) (hk:k v):B7b cells i k:=by
 induction cells generalizing i with
 | nil=>simp at h
 | cons a l ih =>
  cases i with
  | zero=>obtain rfl:a=v:=by simpa using h
          exact hk
  | succ i=>exact ih (by simpa using h)
theorem B9n {cells:List AV} {i:Nat} {v:AV} {k:AV→Prop} (h:cells[i]?=some v) (hk:k v):A6o cells i k:=by
 induction cells generalizing i with
 | nil=>simp at h
 | cons a l ih =>
  cases i with
  | zero=>obtain rfl:a=v:=by simpa using h
          exact hk
  | succ i=>exact ih (by simpa using h)
set_option maxHeartbeats 2000000 in
theorem B5p (r:D4) (o:D6) (q:A0k) (e:Int) (hf:R3 r) (hs:A3F o) (hq:J4 r=true→H7 o=true→r.policy.mode≠3→B2c 60 r o q e) (st:St) :
  S P 34 [M0 r,I3 o] st fun v st'=>v=.tuple [A0O (A6F r o q e).1,eI (A6F r o q e).2]∧st'=st:=by
 have n1:=fun s=>B0e r hf s
 have n2:=fun s=>A4P o hs s
 have n3:=fun x s=>A2d x s
 have hm:J4 r=true→r.policy.mode=1∨r.policy.mode=2∨r.policy.mode=3:=fun h=>by
  unfold J4 A2f at h
  simp only [C9l,C9n] at h
  omega
 have hE:A6F r o q e=if J4 r=false then (A1g,10) else if H7 o=false then (A1g,2) else if (A0G r o q e).2≠0 then (A1g,(A0G r o q e).2)
  else if A1P (A5b (A0G r o q e).1 o.fee)=false then (A1g,5) else (A5b (A0G r o q e).1 o.fee,0):=rfl
 rw [hE]
 clear hE
 generalize J4 r=b1 at *
 generalize H7 o=b2 at *
 refine A1k ?_
 refine A1G [2,3,6,7] A7d mixed Tryz.func34 (by rfl) rfl rfl rfl ?_;conv=>whnf
 intro b hb
 generalize hs:(upd st b _:St)=w
 have h:=C8.new' hs (A0U st) hb
 clear hs hb
 conv=>whnf
 refine B6 (n1 _) ?_
 cases b1
 ·conv=>whnf
  refine L1 h .z rfl rfl (by rfl) ?_;conv=>whnf
  intro w h;conv=>whnf
  refine O8 h .z rfl Nat.one_pos rfl ?_;conv=>whnf
  exact ⟨rfl,h.sup⟩
 rw [if_neg (by simp)];conv=>whnf
 refine B6 (n2 _) ?_
 cases b2
 ·conv=>whnf
  refine L1 h .z rfl rfl (by rfl) ?_;conv=>whnf
  intro w h;conv=>whnf
  refine O8 h .z rfl Nat.one_pos rfl ?_;conv=>whnf
  exact ⟨rfl,h.sup⟩
 rw [if_neg (by simp)]
 obtain ⟨g,W,hW,hg,hS⟩:∃ g,∃ W:Z6×Int,A0G r o q e=W∧((r.policy.mode=3∧g=94)∨(r.policy.mode≠3∧g=93))∧∀ s,S P g [B1a r o] s fun v s'=>v=.tuple [A0O W.1,eI W.2]∧s'=s:=by
  by_cases h:r.policy.mode=3
  ·exact ⟨_,_,by rw [A0G,if_pos h],.inl ⟨h,rfl⟩,fun s=>B5o r o hs s⟩
  ·exact ⟨_,_,by rw [A0G,if_neg h],.inr ⟨h,rfl⟩,fun s=>B5t r o q e (hq rfl rfl h) hs.lines s⟩
 have hm:=hm rfl
 rw [hW]
 clear hW hq
 obtain ⟨⟨w1,w2,w3,w4,w5⟩,w6⟩:=W
 conv=>whnf
 refine ⟨⟨by omega,by omega⟩,?_⟩
 refine B9m (v:=.fn (.func g) [B1a r o] []) (by unfold B1a;rcases hg with ⟨h,rfl⟩ | ⟨h,rfl⟩<;>rcases hm with hm | hm | hm<;>rw [hm] at h ⊢<;>first | exact absurd h (by decide) | exact absurd rfl h | rfl) ?_;conv=>whnf
 refine J0 (hS _) ?_
 intro b8 hb8
 generalize hs:(upd w b8 _:St)=w8
 have h:=C8.new' hs h hb8
 clear hs hb8
 conv=>whnf
 refine L1 h .z rfl rfl (by rfl) ?_;conv=>whnf
 intro w h;conv=>whnf
 cases h6:(w6 != 0)
 case true =>
  rw [if_pos (show w6≠0 by simpa using h6)];conv=>whnf
  refine L1 h (.s .z) rfl rfl (by rfl) ?_;conv=>whnf
  intro w h;conv=>whnf
  refine O8 h (.s .z) rfl Nat.one_pos rfl ?_;conv=>whnf
  exact ⟨rfl,h.sup⟩
 obtain rfl:w6=0:=by simpa using h6
 rw [if_neg (fun h=>h rfl)];conv=>whnf
 refine L1 h .z rfl rfl (by rfl) ?_;conv=>whnf
 intro w h
 iterate 5 ((conv=>whnf);refine O8 h .z rfl Nat.one_pos rfl ?_)
 conv=>whnf
 have hB:A1P (A5b ((⟨w1,w2,w3,w4,w5⟩:Z6),(0:Int)).1 o.fee)=[w1,w2,w3,w4,o.fee].all E4:=rfl
 rw [hB]
 refine lp 5 [4,8,58,59] (fun i vs u=>vs=[.optr 5 b 0 0,.optr 5 b8 0 0,.agg [eI w1,eI w2,eI w3,eI w4,eI o.fee],eI i]∧u=w∧∀ k,k<i→E4 ([w1,w2,w3,w4,o.fee].getD k default)=true) ?_ ?_
 ·conv=>whnf
  exact ⟨rfl,rfl,fun k hk=>absurd hk (by omega)⟩
 rintro i vs u hi ⟨rfl,rfl,hok⟩
 conv=>whnf
 cases h1:decide ((i:Int)<5)
 ·obtain rfl:i=5:=by have:=C9k h1;omega
  rw [show [w1,w2,w3,w4,o.fee].all E4=true from by
   have e0:=hok 0 (by omega);have e1:=hok 1 (by omega);have e2:=hok 2 (by omega);have e3:=hok 3 (by omega);have e4:=hok 4 (by omega)
   show (E4 w1&&(E4 w2&&(E4 w3&&(E4 w4&&(E4 o.fee&&true)))))=true
   rw [show E4 w1=true from e0,show E4 w2=true from e1,show E4 w3=true from e2,show E4 w4=true from e3,show E4 o.fee=true from e4];rfl]
  rw [if_neg (by simp)];conv=>whnf
  refine O8 h .z rfl Nat.one_pos rfl ?_;conv=>whnf
  refine L1 h (.s .z) rfl rfl (by rfl) ?_;conv=>whnf
  intro w h;conv=>whnf
  refine O8 h (.s .z) rfl Nat.one_pos rfl ?_;conv=>whnf
  exact ⟨rfl,h.sup⟩
 have hi':i<5:=by have:=C9j h1;omega
 conv=>whnf
 refine ⟨⟨rfl,by show (i:Int).toNat * 1<5;omega,by omega,by show (i:Int)<5;omega⟩,?_⟩
 refine B9n (v:=eI ([w1,w2,w3,w4,o.fee].getD i default)) (by
  rcases (show i=0∨i=1∨i=2∨i=3∨i=4 by omega) with rfl | rfl | rfl | rfl | rfl<;>rfl) ?_
 conv=>whnf
 refine J0 (n3 _ _) ?_
 cases hx:E4 ([w1,w2,w3,w4,o.fee].getD i default)
 case false =>
  rw [if_pos (List.all_eq_false.2 ⟨_,A7 (l:=[w1,w2,w3,w4,o.fee]) hi',by rw [hx];simp⟩)];conv=>whnf
  refine L1 h (.s .z) rfl rfl (by rfl) ?_;conv=>whnf
  intro w h;conv=>whnf
  refine O8 h (.s .z) rfl Nat.one_pos rfl ?_;conv=>whnf
  exact ⟨rfl,h.sup⟩
 conv=>whnf
 refine I9 ?_
 exact nx hi' ⟨by rw [C1 (by omega)],rfl,M6 hok hx⟩
abbrev B6X (l:List I4):Nat→AV:=fun i=>X0 (l.getD i default)
def A9u (zs:Nat→List I4) (sv:Nat→AV):Nat→St→St→Prop
 | 0=>E9
 | k+1=>fun s t=>ROut (A9u zs sv k) 209 2 (B6X (zs k)) (zs k).length s (sv k) t
theorem A2Q (zs:Nat→List I4) (sv:Nat→AV):∀ k,G4 (A9u zs sv k)
 | 0=>O1
 | k+1=>V2 (A2Q zs sv k) _ _ _ _ _
theorem A4F {bz n ty:Nat} {zs:Nat→List I4} {sv:Nat→AV} {nm:Nat→C9} {r1 r2:Nat→Int}:∀ (k:Nat) (s t:St) (g:Nat→AV),k≤n→A9u zs sv k s t→s bz=some ⟨ty,4,n,g⟩→(∀ j,j<k→g j=.agg [eS (nm j),sv j,eI (r1 j),eI (r2 j)]) →
  ∃ t' g',(∀ vs,A4 vs t vs t')∧E9 (upd s bz ⟨ty,4,n,g'⟩) t'∧(∀ j,j<k→g' j=.agg [eS (nm j),B0 2 X0 (zs j),eI (r1 j),eI (r2 j)])∧∀ j,k≤j→g' j=g j
 | 0,s,t,g,hk,h,hs,hg=>by
  refine ⟨t,g,fun vs=>A4.refl _ _,fun b x hb=>?_,fun j hj=>absurd hj (by omega),fun j _=>rfl⟩
  by_cases e:b=bz
  ·subst e;rw [A0] at hb;cases hb;exact h _ _ hs
  ·rw [A5 e] at hb;exact h _ _ hb
 | k+1,s,t,g,hk,h,hs,hg=>by
  have hB:=A2Q zs sv k
  have ht:t bz=some ⟨ty,4,n,g⟩:=(A2Q zs sv (k+1)).sup h _ _ hs
  obtain ⟨t1,hsh,hc⟩:=ROut.shift hB h
  have ht1:t1 bz=some ⟨ty,4,n,g⟩:=hB.sup hc _ _ hs
  have hcell:=fun vs=>A4.cell (vs:=vs) (pre:=[eS (nm k)]) (post:=[eI (r1 k),eI (r2 k)]) hsh ht ht1 (show k<n by omega) (hg k (by omega)) rfl
  have hc':=hB.write (y':=⟨ty,4,n,G8 g k (.agg ([eS (nm k)]++AV.arr 2 (zs k).length (B6X (zs k))::[eI (r1 k),eI (r2 k)]))⟩) hc hs
  obtain ⟨t',g',k1,k2,k3,k4⟩:=A4F (nm:=nm) (r1:=r1) (r2:=r2) k _ _ _ (by omega) hc' (A0 ..) (fun j hj=>by rw [J1 (by omega)];exact hg j (by omega))
  rw [I2] at k2
  refine ⟨t',g',fun vs=>(hcell vs).trans (k1 vs),k2,fun j hj=>?_,fun j hj=>?_⟩
  ·by_cases e:j=k
   ·subst e;rw [k4 j (C9q _),B4];rfl
   ·exact k3 j (by omega)
  ·rw [k4 j (by omega),J1 (by omega)]
abbrev C6i (z:J9) (rv:AV):AV:=.agg [eS z.name,rv,eI z.rest,eI z.ship]
def ZO (t:Y6) (k:Nat) (base:St) (zv:AV) (s:St):Prop :=
 ∃ (sv g:Nat→AV),ROut (A9u (fun j=>(X6 t.zones j).rates) sv k) 103 4 g k base zv s∧∀ j,j<k→g j=C6i (X6 t.zones j) (sv j)
theorem ZO.end {t:Y6} {base s:St} {zv:AV} (h:ZO t 3 base zv s):∃ t',A4 [zv] s [B0 4 X1 (A9V t).zones] t'∧E9 base t':=by
 obtain ⟨sv,g,⟨s1,hcol,hch⟩,hg⟩:=h
 rcases hcol with ⟨h0,_,_⟩ | ⟨h0,bz,g0,hbz,rfl,rfl,hgg⟩
 ·cases h0
 obtain ⟨t',g',hsh,hsup,hg',_⟩:=A4F (nm:=fun j=>(X6 t.zones j).name) (r1:=fun j=>(X6 t.zones j).rest) (r2:=fun j=>(X6 t.zones j).ship) 3 _ s g0 (C9q _) hch (A0 ..) (fun j hj=>by rw [hgg j hj,hg j hj])
 rw [I2] at hsup
 refine ⟨del t' bz,(hsh _).trans (K1 (hsup bz _ (A0 ..)) rfl (C9q _) fun i hi=>?_),?_⟩
 ·show g' i=X1 ((A9V t).zones.getD i default)
  rw [hg' i hi]
  have:(A9V t).zones.getD i default=X6 t.zones i:=by
   show ((List.range 3).map (X6 t.zones)).getD i default=_
   rw [C9i,D0y,D1c hi];rfl
  rw [this];rfl
 ·exact E9.del (((E9.refl base).upd hbz).trans hsup) hbz
theorem So.book (b:Z6):So (A0O b) (A0O b):=So.agg (.cons (So.int _ _) (.cons (So.int _ _) (.cons (So.int _ _) (.cons (So.int _ _) (.cons (So.int _ _) .nil)))))
def spZ:J9:=⟨⟨#[122]⟩,[],1000,0⟩
def spI:List Ab.Item:=[⟨⟨#[97]⟩,⟨#[120]⟩,50,false⟩]
def spR (w g c:Int):D4:=⟨spI,[],⟨false,false,0,[spZ]⟩,⟨0,0⟩,⟨w,g,1,c,[],[]⟩⟩
def spO (n:Int):D6:=⟨⟨#[111]⟩,1,⟨#[122]⟩,false,[],5,[⟨⟨#[97]⟩,50,2,n,100,10⟩],0,0,0,110,⟨100,10,0,0,0⟩,[⟨1,110,0⟩]⟩
theorem B8e (st:St):S P 29 [] st fun v st'=>v=.tuple [M0 (spR 30 0 1000),I3 (spO 2)]∧st'=st:=by
 refine S.post (post:=fun v w=>E9 st w∧A4 [v] w [.tuple [M0 (spR 30 0 1000),I3 (spO 2)]] w) ?_ (fun v w hv=>⟨_,st,⟨rfl,rfl⟩,hv.2.trans (hv.1.shift _)⟩)
 refine A1G [2,3] A7d mixed Tryz.func29 (by rfl) rfl rfl rfl ?_;conv=>whnf
 intro b0 hb0
 generalize hs:(upd st b0 _:St)=w
 have h:=C8.new' hs (A0U st) hb0
 clear hs hb0
 conv=>whnf
 intro b1 hb1
 generalize hs:(upd w b1 _:St)=w2
 have h:=C8.new' hs h hb1
 clear hs hb1
 conv=>whnf
 refine .inr ⟨[2,3],.qui 0 (.qui 1 (.eff 2 [1] (.eff 3 [] (.done)))),by kernel_rfl,?_⟩
 repeat' ((conv=>whnf);first | refine quT (fun _=>⟨rfl,rfl⟩) ?_ | fail)
 conv=>whnf
 refine L1 h (.s .z) rfl rfl (by rfl) ?_;conv=>whnf
 intro w h
 repeat' ((conv=>whnf);first | refine ⟨fun _=>⟨rfl,rfl⟩,?_⟩ | refine ⟨fun _=>trivial,?_⟩ | fail)
 conv=>whnf
 refine L1 h .z rfl rfl (by rfl) ?_;conv=>whnf
 intro w h;conv=>whnf
 refine O8 h (.s .z) rfl Nat.one_pos rfl ?_;conv=>whnf
 refine O8 h .z rfl Nat.one_pos rfl ?_;conv=>whnf
 refine ⟨h.sup,A4.tuple (A4.cons (Le.shift (Le.agg ?_) _) (Le.shift (Le.agg ?_) _)) rfl⟩
 all_goals repeat' first | exact LeL.nil | refine LeL.cons ?_ ?_ | exact Le.refl _ | exact Le.emp _ _ | refine Le.arr1 ?_ rfl
structure M3 where
 line:Int
 qty:Int
 deriving Inhabited
def A4E (x:M3):AV:=.agg [eI x.line,eI x.qty]
def A8L (l:List M3) (i:Nat):Int:=if i=0 then -1 else (l.getD (i - 1) default).line
def A0D (l:List M3) (i:Nat):Bool:=decide (A8L l i<(l.getD i default).line)&&decide (1≤(l.getD i default).qty)
def K6 (l:List M3):Bool:=decide ((l.length:Int)≤1000)&&(List.range l.length).all (A0D l)
theorem A9f {l:List M3} {i:Nat} (hi:i<l.length) (h:A0D l i=false):K6 l=false:=by
 unfold K6
 rw [show (List.range l.length).all (A0D l)=false from List.all_eq_false.2 ⟨i,C9S.2 hi,by rw [h];simp⟩,C9I]
theorem B3j {l:List M3} (h:∀ k,k<l.length→A0D l k=true):K6 l=decide ((l.length:Int)≤1000):=by
 unfold K6;rw [A6Q h,D0n]
theorem B7h {l:List M3} {i:Nat} (h:∀ k,k<i→A0D l k=true) : -1≤A8L l i:=by
 induction i with
 | zero=>exact C9R _
 | succ i ih =>
  have h1:=ih fun k hk=>h k (by omega)
  have h2:=h i (by omega)
  unfold A0D at h2
  simp only [C9l,C9n] at h2
  show -1≤(l.getD (i+1 - 1) default).line
  rw [Nat.add_sub_cancel];omega
theorem B4q (l:List M3) (hl:l.length≤9223372036854775806) (st:St):S P 88 [B0 2 A4E l] st fun v st'=>v=.bool (K6 l)∧st'=st:=by
 refine F5 [5] Tryz.func88 ?_
 cases h0:decide ((l.length:Int)>1000)
 case true =>
  conv=>whnf
  exact ⟨by unfold K6;rw [C9s (by have:=C9j h0;omega)];rfl,rfl⟩
 have h0:=C9k h0
 conv=>whnf
 refine lp l.length [3,9,10,11] (fun i vs s=>(∀ k,k<i→A0D l k=true)∧vs=[eI (A8L l i),B0 2 A4E l,eI l.length,eI i]∧s=st) ?_ ?_
 ·conv=>whnf
  exact ⟨fun k hk=>absurd hk (by omega),rfl,rfl⟩
 rintro i vs s hi ⟨hok,rfl,rfl⟩
 conv=>whnf
 cases h:decide ((i:Int)<(l.length:Int))
 ·obtain rfl:=L5 h hi
  conv=>whnf
  exact ⟨by rw [B3j hok,D0r (by omega)];rfl,rfl⟩
 have hi':=X4 h
 have hx:A0D l i=(decide (A8L l i<(l.getD (i:Int).toNat default).line)&&decide (1≤(l.getD (i:Int).toNat default).qty)):=rfl
 conv=>whnf
 refine I8 ?_
 cases h1:decide ((l.getD (i:Int).toNat default).line≤A8L l i)
 ·conv=>whnf
  cases h2:decide ((l.getD (i:Int).toNat default).qty<1)
  ·conv=>whnf
   have h1:=C9k h1
   have h2:=C9k h2
   refine I9 ?_
   exact nx hi' ⟨M6 hok (by rw [hx,D0r (by omega),D0r (by omega)];rfl),by rw [C1 (by omega)];rfl,rfl⟩
  ·conv=>whnf
   have h2:=C9j h2
   exact ⟨by rw [A9f hi' (by rw [hx,C9s (p:=1≤_) (by omega),C9I])];rfl,rfl⟩
 ·conv=>whnf
  have h1:=C9j h1
  exact ⟨by rw [A9f hi' (by rw [hx,C9s (p:=_<_) (by omega),C9A])];rfl,rfl⟩
def A1B (items:List Ab.Item) (o:D6) (x:M3):Int :=
 if x.line≥o.lines.length then 7 else if X2 items (o.lines.getD x.line.toNat default).sku<0 then 7 else if x.qty>(o.lines.getD x.line.toNat default).left then 12
  else if (items.getD (X2 items (o.lines.getD x.line.toNat default).sku).toNat default).final=true then 14 else 0
def S2 (f:M3→Int):List M3→Int
 | []=>0
 | x::l=>if f x=0 then S2 f l else f x
theorem A3U {f:M3→Int}:∀ {l:List M3},(∀ k,k<l.length→f (l.getD k default)=0)→S2 f l=0
 | [],_=>rfl
 | x::l,h=>by
  unfold S2
  rw [if_pos (show f x=0 from h 0 (Nat.zero_lt_succ _))]
  exact A3U fun k hk=>h (k+1) (Nat.succ_lt_succ hk)
theorem A5q {f:M3→Int}:∀ {l:List M3} {i:Nat},i<l.length→(∀ k,k<i→f (l.getD k default)=0)→f (l.getD i default)≠0→S2 f l=f (l.getD i default)
 | x::l,0,_,_,h=>by unfold S2;rw [if_neg (show ¬ f x=0 from h)];rfl
 | x::l,i+1,hi,h0,h=>by
  unfold S2
  rw [if_pos (show f x=0 from h0 0 (Nat.zero_lt_succ _))]
  exact A5q (Nat.lt_of_succ_lt_succ hi) (fun k hk=>h0 (k+1) (Nat.succ_lt_succ hk)) h
def A4a (r:D4) (o:D6) (day:Int) (l:List M3):Int :=
 if J4 r=false then 10 else if H7 o=false then 2 else if day<o.day then 2 else if R1 0 100000 day=false then 2 else if K6 l=false then 2 else if day - o.day>r.policy.window then 13 else S2 (A1B r.items o) l
theorem A1C {l:List M3} (h:K6 l=true) {i:Nat} (hi:i<l.length):0≤(l.getD i default).line∧1≤(l.getD i default).qty:=by
 unfold K6 at h
 rw [C9l,C9O] at h
 have h1:=B7h (l:=l) (i:=i) fun k hk=>h.2 k (C9S.2 (by omega))
 have h2:=h.2 i (C9S.2 hi)
 unfold A0D at h2
 simp only [C9l,C9n] at h2
 omega
theorem B9N (r:D4) (o:D6) (x:M3) (hr:r.items.length≤9223372036854775807) (h0:0≤x.line) (st:St):S P 89 [M0 r,I3 o,A4E x] st fun v st'=>v=eI (A1B r.items o x)∧st'=st:=by
 have n1:=B2r r.items (o.lines.getD x.line.toNat default).sku hr st
 have hf:X2 r.items (o.lines.getD x.line.toNat default).sku<r.items.length:=(A9D _ _).2
 have hE:A1B r.items o x=if x.line≥o.lines.length then 7 else if X2 r.items (o.lines.getD x.line.toNat default).sku<0 then 7 else if x.qty>(o.lines.getD x.line.toNat default).left then 12
  else if (r.items.getD (X2 r.items (o.lines.getD x.line.toNat default).sku).toNat default).final=true then 14 else 0:=rfl
 rw [hE]
 clear hE
 generalize X2 r.items (o.lines.getD x.line.toNat default).sku=F at *
 refine F5 [3,4,5,7] Tryz.func89 ?_
 cases h1:decide (x.line≥(o.lines.length:Int))
 case true =>
  rw [if_pos (C9j h1)];conv=>whnf
  exact ⟨rfl,rfl⟩
 rw [if_neg (C9k h1)]
 have h1:=C9k h1
 conv=>whnf
 refine I8 ?_
 refine J0 n1 ?_
 cases h2:decide (F<0)
 case true =>
  rw [if_pos (C9j h2)];conv=>whnf
  exact ⟨rfl,rfl⟩
 rw [if_neg (C9k h2)]
 have h2:=C9k h2
 conv=>whnf
 cases h3:decide (x.qty>(o.lines.getD x.line.toNat default).left)
 case true =>
  rw [if_pos (C9j h3)];conv=>whnf
  exact ⟨rfl,rfl⟩
 rw [if_neg (C9k h3)];conv=>whnf
 refine I8 ?_
 cases h4:(r.items.getD F.toNat default).final
 all_goals
  conv=>whnf
  exact ⟨rfl,rfl⟩
set_option maxHeartbeats 1000000 in
theorem A9W (r:D4) (o:D6) (day:Int) (l:List M3) (hf:R3 r) (hr:r.items.length≤9223372036854775807) (hs:A3F o) (hl:l.length≤9223372036854775806) (st:St) :
  S P 30 [M0 r,I3 o,eI day,B0 2 A4E l] st fun v st'=>v=eI (A4a r o day l)∧st'=st:=by
 have n1:=fun s=>B0e r hf s
 have n2:=fun s=>A4P o hs s
 have n3:=fun s=>B6Q day s
 have n4:=fun s=>B4q l hl s
 have hE:A4a r o day l=if J4 r=false then 10 else if H7 o=false then 2 else if day<o.day then 2 else if R1 0 100000 day=false then 2 else if K6 l=false then 2 else if day - o.day>r.policy.window then 13 else S2 (A1B r.items o) l:=rfl
 have hod:H7 o=true→0≤o.day∧o.day≤100000:=fun h=>by
  unfold H7 A3I at h
  simp only [C9l,G2] at h
  exact h.1.1.1.1.2.2
 have hta:=fun (h:K6 l=true) i (hi:i<l.length)=>A1C h hi
 have hub:R1 0 100000 day=true→0≤day∧day≤100000:=fun h=>(G2 ..).1 h
 rw [hE]
 clear hE
 generalize J4 r=b1 at *
 generalize H7 o=b2 at *
 generalize R1 0 100000 day=b3 at *
 generalize K6 l=b4 at *
 refine F5 [4,5,10] Tryz.func30 ?_
 refine B6 (n1 _) ?_
 cases b1
 ·conv=>whnf
  exact ⟨rfl,rfl⟩
 rw [if_neg (by simp)];conv=>whnf
 refine B6 (n2 _) ?_
 cases b2
 ·conv=>whnf
  exact ⟨rfl,rfl⟩
 rw [if_neg (by simp)];conv=>whnf
 cases h3:decide (day<o.day)
 case true =>
  rw [if_pos (C9j h3)];conv=>whnf
  exact ⟨rfl,rfl⟩
 rw [if_neg (C9k h3)];conv=>whnf
 refine B6 (n3 _) ?_
 cases b3
 ·conv=>whnf
  exact ⟨rfl,rfl⟩
 rw [if_neg (by simp)];conv=>whnf
 refine B6 (n4 _) ?_
 cases b4
 ·conv=>whnf
  exact ⟨rfl,rfl⟩
 rw [if_neg (by simp)]
 have h5:=hod rfl
 have h6:=hub rfl
 have hw:IntKind.i64.wrap (day - o.day)=day - o.day:=A6 (by omega) (by omega)
 conv=>whnf
 rw [hw]
 cases h7:decide (day - o.day>r.policy.window)
 case true =>
  rw [if_pos (C9j h7)];conv=>whnf
  exact ⟨rfl,rfl⟩
 rw [if_neg (C9k h7)];conv=>whnf
 refine lp l.length [4,5,45,46,47] (fun i vs s=>(∀ k,k<i→A1B r.items o (l.getD k default)=0)∧vs=[.fptr (M0 r) 0,.fptr (I3 o) 0,B0 2 A4E l,eI l.length,eI i]∧s=st) ?_ ?_
 ·conv=>whnf
  exact ⟨fun k hk=>absurd hk (by omega),rfl,rfl⟩
 rintro i vs s hi ⟨hok,rfl,rfl⟩
 conv=>whnf
 cases h:decide ((i:Int)<(l.length:Int))
 ·obtain rfl:=L5 h hi
  rw [A3U hok];conv=>whnf
  exact ⟨rfl,rfl⟩
 have hi':=X4 h
 have n5:=fun s=>B9N r o (l.getD (i:Int).toNat default) hr (hta rfl i hi').1 s
 have hat:A1B r.items o (l.getD (i:Int).toNat default)≠0→S2 (A1B r.items o) l=A1B r.items o (l.getD (i:Int).toNat default):=fun h=>A5q hi' hok h
 have hnx:A1B r.items o (l.getD (i:Int).toNat default)=0→∀ k,k<i+1→A1B r.items o (l.getD k default)=0:=fun h=>M6 hok h
 conv=>whnf
 refine I8 ?_
 refine B6 (n5 _) ?_
 generalize A1B r.items o (l.getD (i:Int).toNat default)=E at *
 conv=>whnf
 cases h8:(E != 0)
 ·conv=>whnf
  refine I9 ?_
  exact nx hi' ⟨hnx (by simpa using h8),by rw [C1 (by omega)],rfl⟩
 ·rw [hat (by simpa using h8)];conv=>whnf
  exact ⟨rfl,rfl⟩
theorem B2h (l:List C9) (hl:l.length≤100000) (st:St):S P 62 [B0 1 eS l] st fun v st'=>U9 9 1 eS l st v st':=by
 refine SyW [] Tryz.func62 ?_
 cases l with
 | nil =>
  conv=>whnf
  refine ⟨?_,?_⟩
  ·conv=>whnf
   exact Col.start _ _ _ _
  ·conv=>whnf
   refine apE rfl rfl rfl rfl rfl (by show 0 * 16≤_;omega) (fun _=>?_) (fun h=>absurd h (by show ¬ 0<0;omega));conv=>whnf
   exact Col.start _ _ _ _
 | cons u us =>
  conv=>whnf
  refine Col.apps (n:=0) (m:=us.length+1) (q:=r9) (f:=fun k=>eS ((u::us).getD k default)) rfl rfl rfl rfl rfl (fun i hi=>by rw [C9y]) (by show (0+(us.length+1)) * 16≤140737488355328;simp only [C9G] at hl;omega) (Col.start _ _ _ _) (fun sv' st'' hc'=>?_);conv=>whnf
  rw [C9y] at hc'
  exact hc'
theorem B0V (l:List C9) (hl:l.length≤100000) (st:St):S P 62 [B0 1 eS l] st fun v st'=>v=B0 1 eS l∧st'=st:=A6L (B2h l hl st)
structure Pay where
 kind:Int
 amount:Int
 deriving Inhabited
def B9M (x:Pay):Bool:=R1 1 9 x.kind&&decide (x.amount≥1)&&E4 x.amount
def A7y (l:List Pay):Int:=l.foldl (fun a x=>a+x.amount) 0
def A8V (t:Int) (x:Pay):Pay:=⟨1+A2D x.kind 5,1+A2D x.amount t⟩
def B4e (s:Int×List Pay) (x:Pay):Int×List Pay :=
 if s.1>1 then (if (A8V s.1 x).amount<s.1 then (s.1 - (A8V s.1 x).amount,s.2++[A8V s.1 x]) else s) else s
theorem B2O (a:List Pay) (x:Pay):A7y (a++[x])=A7y a+x.amount:=by unfold A7y;rw [D1Y];rfl
theorem B7F {t:Int} (ht:1<t∧t≤100000000000000) (x:Pay):B9M (A8V t x)=true:=by
 have h1:=A2c x.kind (n:=5) (by decide)
 have h2:=A2c x.amount (n:=t) (by omega)
 unfold B9M E4 A8V
 simp only [C9l,G2,C9n]
 omega
structure B6r (t:Int) (n:Nat) (s:Int×List Pay):Prop where
 left:0≤s.1∧s.1≤t
 sum:A7y s.2+s.1=t
 ok:∀ x∈s.2,B9M x=true
 len:s.2.length≤n
theorem B6r.step {t:Int} {n:Nat} {s:Int×List Pay} (ht:t≤100000000000000) (h:B6r t n s) (x:Pay):B6r t (n+1) (B4e s x):=by
 obtain ⟨h1,h2,h3,h4⟩:=h
 unfold B4e
 split
 ·rename_i hs
  split
  ·rename_i ha
   have hk:=B7F (t:=s.1) ⟨hs,by omega⟩ x
   have hp:(A8V s.1 x).amount≥1:=by
    unfold B9M at hk
    simp only [C9l,C9n] at hk
    exact hk.1.2
   exact ⟨⟨by show 0≤s.1 - _;omega,by show s.1 - _≤t;omega⟩,by show A7y (s.2++[_])+(s.1 - _)=t;rw [B2O];omega,fun y hy=>by
    rcases D0V.1 hy with hy | hy
    ·exact h3 y hy
    ·rw [C9Z.1 hy];exact hk,by show (s.2++[_]).length≤n+1;rw [C9E];exact Nat.succ_le_succ h4⟩
  ·exact ⟨h1,h2,h3,by omega⟩
 ·exact ⟨h1,h2,h3,by omega⟩
end Go.Proofs.YtaapofnkmpiknaaGreat
namespace Go.Proofs.YtaapofnkmpiknaaGreat
open Go Go.Ab
def B6V (rates:List Int) (i:Nat):QE:=(-(gI rates i),(i:Int))
def B3G (rates:List Int):List QE:=(List.range rates.length).map (B6V rates)
def A6a (rates:List Int):List QE:=(B3G rates).mergeSort fun a b=>!D0 b a
theorem A4X (rates:List Int):(A6a rates).Pairwise fun a b=>D0 b a=false:=by
 have:=D1o (le:=fun a b:QE=>!D0 b a) (fun a b c h1 h2=>by simp only [C9F] at *;exact Q2 h2 h1) (fun a b=>by
  cases h:D0 b a with
  | false=>rfl
  | true=>rw [P2 h];rfl) (B3G rates)
 exact this.imp (fun h=>by simpa using h)
theorem A2l (rates:List Int):(A6a rates).Perm (B3G rates):=D1u ..
def L3 (rates:List Int) (k:Int):List Nat:=(List.range rates.length).filter fun i=>-(gI rates i)==k
theorem B5H (rates:List Int) (k:Int):(A6a rates).filter (fun e=>e.1==k)=(L3 rates k).map fun i:Nat=>(k,(i:Int)):=by
 have h1:((A6a rates).filter (fun e=>e.1==k)).Perm ((L3 rates k).map fun i:Nat=>(k,(i:Int))):=by
  refine ((A2l rates).filter _).trans ?_
  unfold B3G L3
  rw [List.filter_map]
  refine List.Perm.of_eq ?_
  refine D1d fun i hi=>?_
  have:=(D0C.1 hi).2
  show (-(gI rates i),(i:Int))=(k,(i:Int))
  have h : -(gI rates i)=k:=by simpa [B6V] using this
  rw [h]
 refine h1.eq_of_pairwise (le:=fun a b=>D0 b a=false) (fun a b _ _ h3 h4=>(A5D h4 h3)) (D1D D0X (A4X rates)) ?_
 refine List.pairwise_map.2 ?_
 unfold L3
 refine (D1D D0X List.pairwise_lt_range).imp fun {a b} hab=>?_
 rw [P3]
 show ¬(k>k∨k=k∧(b:Int)<(a:Int))
 omega
theorem B5L {E:List QE} (hs:E.Pairwise fun a b=>D0 b a=false) {k:Int} (hk:∀ e∈E,e.1≤k):E=E.filter (fun e=>e.1==k)++E.filter (fun e=>!(e.1==k)):=by
 induction E with
 | nil=>rfl
 | cons e E ih =>
  have hs':=D0F.1 hs
  by_cases h:e.1=k
  ·rw [D0o (by simpa using h),D0w (by simpa using h),D1h,←ih hs'.2 fun x hx=>hk x (C9x _ hx)]
  ·have hlt:∀ x∈E,x.1<k:=fun x hx=>by
    have h1:=(P3 _ _).1 (hs'.1 x hx)
    have h2:=hk e (C9C ..)
    omega
   have hn:E.filter (fun e=>e.1==k)=[]:=List.filter_eq_nil_iff.2 fun x hx=>by have:=hlt x hx;simp;omega
   have ha:E.filter (fun e=>!(e.1==k))=E:=List.filter_eq_self.2 fun x hx=>by have:=hlt x hx;simp;omega
   rw [D0w (by simpa using h),D0o (by simpa using h),hn,ha];rfl
def U1 (rates:List Int) (D:Int→Bool):List QE:=(A6a rates).filter fun e=>!D e.1
theorem A4J (rates:List Int) (D:Int→Bool):(U1 rates D).Pairwise fun a b=>D0 b a=false:=D1D D0X (A4X rates)
theorem B2z {rates:List Int} {D:Int→Bool} {x:QE} {E:List QE} (h:U1 rates D=x::E) :
  D x.1=false∧x::E=((L3 rates x.1).map fun i:Nat=>(x.1,(i:Int)))++U1 rates (fun y=>D y||y==x.1):=by
 have hs:=A4J rates D
 have hx:x∈U1 rates D:=by rw [h];exact C9C ..
 have hD:D x.1=false:=by
  have:=(D0C.1 hx).2
  simpa using this
 refine ⟨hD,?_⟩
 have hk:∀ e∈U1 rates D,e.1≤x.1:=fun e he=>by
  rw [h] at he hs
  rcases D0M.1 he with rfl | he
  ·exact C9R _
  ·have:=(P3 _ _).1 ((D0F.1 hs).1 e he);omega
 have h2:=B5L hs hk
 rw [←h,h2]
 congr 1
 ·rw [←B5H]
  unfold U1
  rw [List.filter_filter]
  refine List.filter_congr fun e he=>?_
  by_cases e1:e.1=x.1
  ·rw [e1,hD];simp
  ·simp [e1]
 ·unfold U1
  rw [List.filter_filter]
  refine List.filter_congr fun e he=>?_
  show (!(e.1==x.1)&&!D e.1)=!(D e.1||e.1==x.1)
  rw [Bool.not_or,Bool.and_comm]
theorem A9J {rates:List Int} {D:Int→Bool} {k:Int}:∀ y∈U1 rates (fun z=>D z||z==k),(y.1==k)=false:=fun y hy=>by
 have:=(D0C.1 hy).2
 simp only [C9F,D0S] at this
 exact this.2
theorem B1j (rates:List Int):U1 rates (fun _=>false)=A6a rates:=List.filter_eq_self.2 fun x _=>rfl
theorem V4 {rates:List Int} {k:Int} {i:Nat} (hi:i∈L3 rates k) : -(gI rates i)=k∧i<rates.length∧A4L rates i=L3 rates k:=by
 have h1:=D0C.1 hi
 have h2 : -(gI rates i)=k:=by simpa using h1.2
 refine ⟨h2,C9S.1 h1.1,?_⟩
 unfold A4L L3
 refine List.filter_congr fun j _=>?_
 rw [D2j,D0Q,D0Q];omega
theorem A8I (rates:List Int) (k:Int):(L3 rates k).Nodup:=D1D D0X List.nodup_range
theorem B9p {rates:List Int} {k:Int} {j:Nat} (hj:j<(L3 rates k).length):U3 rates ((L3 rates k)[j])=j:=by
 have hm:=V4 (D0t hj)
 have h1:=A7n hm.2.1
 rw [hm.2.2] at h1
 have h2:=C9t.1 h1
 obtain ⟨h3,h4⟩:=h2
 have:=(List.nodup_iff_pairwise_ne.1 (A8I rates k))
 rcases Nat.lt_trichotomy (U3 rates ((L3 rates k)[j])) j with e | e | e
 ·exact absurd h4 (D1F.1 this _ _ h3 hj e)
 ·exact e
 ·exact absurd h4.symm (D1F.1 this _ _ hj h3 e)
def A4e (t:Y6) (rates nets:List Int) (k:Int):List Int:=C3 (J6 t (A3 ((L3 rates k).map (gI nets))) (-k)) ((L3 rates k).map (gI nets))
theorem B7E {t:Y6} {rates nets:List Int} {k:Int} {j:Nat} (hj:j<(L3 rates k).length):gI (A4e t rates nets k) j=U4 t rates nets ((L3 rates k)[j]):=by
 have hm:=V4 (D0t hj)
 unfold A4e U4 F1
 rw [B9p hj,hm.2.2,show gI rates ((L3 rates k)[j]) = -k by omega]
end Go.Proofs.YtaapofnkmpiknaaGreat
namespace Go.Proofs.YtaapofnkmpiknaaGreat
open Go Go.Ab
attribute [local irreducible] upd del
theorem B7R (st0:St) (q:Nat) (f:Bool) (st:St) (h:T8 st0 q f [] st):S P 237 [.optr 1 q 0 0] st fun v st'=>v=.tuple [eI 0,eI 0,.bool false]∧st'=st:=by
 obtain ⟨h1,h2,sv,⟨fq,hqs,hq0⟩,h3⟩:=h
 refine F5 [] Tryz.func237 ?_
 rcases h3 with ⟨_,rfl⟩ | ⟨b,l,n,a1,a2,rfl,a4,a5,a6,a7,a8,a9⟩
 ·refine K9 hqs hq0 ?_
  exact ⟨rfl,rfl⟩
 ·have e:n=0:=by
   have:=a8.length_eq
   rw [C9D,D0B] at this;omega
  subst e
  refine K9 hqs hq0 ?_
  exact ⟨rfl,rfl⟩
theorem A9X (st0:St) (q:Nat) (f:Bool) (x:QE) (es:List QE) (st:St) (h:T8 st0 q f (x::es) st) (htop:∀ y∈es,D0 y x=false):S P 237 [.optr 1 q 0 0] st fun v st'=>v=.tuple [eI x.1,eI x.2,.bool true]∧st'=st:=by
 obtain ⟨h1,h2,sv,hq,h3⟩:=h
 rcases h3 with ⟨h,_⟩ | ⟨b,l,n,a1,a2,rfl,a4,a5,a6,a7,a8,a9⟩
 ·cases h
 have hn:n=es.length+1:=by
  have:=a8.length_eq
  rw [C9D,C9G] at this;omega
 subst hn
 have hx:at_ l 0=x:=by
  have m0:at_ l 0∈x::es:=by
   refine a8.subset ?_
   have:(l.take (es.length+1)).getD 0 default=at_ l 0:=by
    unfold at_;rw [C9i,C9i,C9w (by omega)]
   rw [←this];exact A7 (by rw [C9D];omega)
  have hmem:x∈l.take (es.length+1):=a8.symm.subset (C9C ..)
  obtain ⟨k,hk,he⟩:=F2 hmem
  rw [C9D] at hk
  have hxk:x=at_ l k:=by
   rw [he];unfold at_;rw [C9i,C9i,C9w (by omega)]
  have t1:D0 x (at_ l 0)=false:=by rw [hxk];exact a6.top k (by omega)
  rcases D0M.1 m0 with e | e
  ·exact e
  ·exact A5D (htop _ e) t1
 obtain ⟨fq,hqs,hq0⟩:=hq
 obtain ⟨fe,hes,hef⟩:=a7
 have h0:fe 0=A2S x:=by rw [hef 0 (by omega),hx]
 refine F5 [] Tryz.func237 ?_
 refine K9 hqs hq0 ?_
 rw [show (((es.length+1:Nat):Int)==0)=false by rw [C9W];omega];conv=>whnf
 refine ⟨[],[],List.range 17,by kernel_rfl,?_⟩;conv=>whnf
 refine K9 hqs hq0 ?_
 refine I8 ?_
 refine ldV hes rfl (by omega) (v:=A2S x) h0 ?_;conv=>whnf
 refine K9 hqs hq0 ?_
 refine I8 ?_
 refine ldV hes rfl (by omega) (v:=A2S x) h0 ?_;conv=>whnf
 exact ⟨rfl,rfl⟩
def IsL (L:List Int) (y:H1):Prop:=∃ f,y=⟨2,1,L.length,f⟩∧∀ i,i<L.length→f i=eI (gI L i)
def OQ (bo q:Nat) (L:List Int) (fl:Bool) (es:List QE):St→St→Prop:=R8 bo (IsL L) (fun s t=>T8 s q fl es t)
theorem A6T (bo q:Nat) (L:List Int) (fl:Bool) (es:List QE):G4 (OQ bo q L fl es):=Z8 (B3w q fl es)
abbrev gN (G:List Nat) (i:Nat):Int:=((G.getD i 0:Nat):Int)
def QJ (G:List Nat) (k:Int) (Rest:List QE) (j:Nat):List QE:=((G.drop j).map fun i:Nat=>(k,(i:Int)))++Rest
theorem B8T {G:List Nat} {k:Int} {Rest:List QE} {j:Nat} (hj:j<G.length):QJ G k Rest j=(k,gN G j)::QJ G k Rest (j+1):=by
 unfold QJ gN
 rw [D1a hj,C9i,C9p hj];rfl
theorem B6s {G:List Nat} {k:Int} {Rest:List QE}:QJ G k Rest G.length=Rest:=by
 unfold QJ;rw [List.drop_length];rfl
def B7I (es:List QE):AV:=match es with
 | []=>.tuple [eI 0,eI 0,.bool false]
 | y::_=>.tuple [eI y.1,eI y.2,.bool true]
theorem B7S (st0:St) (q:Nat) (f:Bool) (es:List QE) (st:St) (h:T8 st0 q f es st) (hs:es.Pairwise fun a b=>D0 b a=false):S P 237 [.optr 1 q 0 0] st fun v st'=>v=B7I es∧st'=st:=by
 cases es with
 | nil=>exact B7R st0 q f st h
 | cons y es=>exact A9X st0 q f y es st h (D0F.1 hs).1
def B3E (t:Y6) (rates nets:List Int) (D:Int→Bool) (L:List Int):Prop:=L.length=nets.length∧∀ i,i<nets.length→gI L i=if D (-(gI rates i))=true then U4 t rates nets i else 0
theorem C1d {a b:List Int} (hl:a.length=b.length) (h:∀ i,i<a.length→gI a i=gI b i):a=b:=D2f hl fun i h1 h2=>by
 have:=h i h1
 unfold gI at this
 rw [C9i,C9p h1,C9i,C9p h2] at this
 exact this
theorem B6S {t:Y6} {rates nets:List Int} {D:Int→Bool} {L:List Int} (h:B3E t rates nets D L) (hr:rates.length=nets.length) (hE:U1 rates D=[]):L=G6 t rates nets:=by
 have hl:(G6 t rates nets).length=nets.length:=by unfold G6;rw [C9o,D0h]
 refine C1d (by rw [h.1,hl]) fun i h1=>?_
 have hi:i<nets.length:=by rw [←h.1];exact h1
 have h3:=h.2 i hi
 have hD:D (-(gI rates i))=true:=by
  have hm:B6V rates i∈A6a rates:=(A2l rates).mem_iff.2 (C9H.2 ⟨i,C9S.2 (by omega),rfl⟩)
  have:=List.filter_eq_nil_iff.1 hE _ hm
  simpa [B6V] using this
 rw [if_pos hD] at h3
 rw [h3]
 unfold G6 gI
 rw [C9i,D0y,D1c hi];rfl
def A4f (L:List Int) (G:List Nat) (X:List Int):Nat→List Int
 | 0=>L
 | j+1=>(A4f L G X j).set (G.getD j 0) (gI X j)
theorem A7C (L:List Int) (G:List Nat) (X:List Int) (j:Nat):(A4f L G X j).length=L.length:=by
 induction j with
 | zero=>rfl
 | succ j ih=>show ((A4f L G X j).set _ _).length=_;rw [D0p,ih]
theorem B4h {L:List Int} {G:List Nat} {X:List Int} (hn:G.Nodup) (hG:∀ i∈G,i<L.length):∀ j,j≤G.length→∀ i,i<L.length→gI (A4f L G X j) i=if i∈G.take j then gI X (G.idxOf i) else gI L i
 | 0,_,i,hi=>by rw [D1q,if_neg D1b];rfl
 | j+1,hj,i,hi=>by
  have ih:=B4h (X:=X) hn hG j (by omega) i hi
  have hgj:G.getD j 0=G[j]:=by rw [C9i,C9p (by omega)];rfl
  show gI ((A4f L G X j).set (G.getD j 0) (gI X j)) i=_
  rw [hgj,D0T (show j<G.length by omega)]
  by_cases e:G[j]=i
  ·have hidx:G.idxOf i=j:=by rw [←e];exact hn.idxOf_getElem j (by omega)
   rw [if_pos (List.mem_append_right _ (C9Z.2 e.symm)),hidx]
   unfold gI
   rw [e,C9i,List.getElem?_set_self (by rw [A7C];exact hi)];rfl
  ·have hs:gI ((A4f L G X j).set G[j] (gI X j)) i=gI (A4f L G X j) i:=by
    unfold gI;rw [C9i,D0H e,←C9i]
   rw [hs,ih]
   by_cases hm:i∈G.take j
   ·rw [if_pos hm,if_pos (List.mem_append_left _ hm)]
   ·rw [if_neg hm,if_neg]
    intro h
    rcases D0V.1 h with h | h
    ·exact hm h
    ·exact e (C9Z.1 h).symm
theorem B4M {t:Y6} {rates nets:List Int} {D:Int→Bool} {L:List Int} {k:Int} (h:B3E t rates nets D L) (hr:rates.length=nets.length):B3E t rates nets (fun y=>D y||y==k) (A4f L (L3 rates k) (A4e t rates nets k) (L3 rates k).length):=by
 have hG:∀ i∈L3 rates k,i<L.length:=fun i hi=>by rw [h.1,←hr];exact (V4 hi).2.1
 refine ⟨by rw [A7C];exact h.1,fun i hi=>?_⟩
 rw [B4h (A8I rates k) hG _ (C9q _) i (by rw [h.1];exact hi),C9u]
 by_cases hm:i∈L3 rates k
 ·obtain ⟨h1,h2,h3⟩:=V4 hm
  have hlt:=List.idxOf_lt_length_iff.2 hm
  rw [if_pos hm,B7E hlt,List.getElem_idxOf hlt,if_pos (by rw [h1];simp)]
 ·have hne:¬ -(gI rates i)=k:=fun e=>hm (D0C.2 ⟨C9S.2 (by omega),by rw [e];exact D2a k⟩)
  rw [if_neg hm,h.2 i hi]
  have:(-(gI rates i)==k)=false:=C9W.2 hne
  simp only [this,C9X]
theorem IsL.set {L:List Int} {f:Nat→AV} {i:Nat} {v:Int} (h:∀ k,k<L.length→f k=eI (gI L k)):IsL (L.set i v) ⟨2,1,L.length,G8 f i (eI v)⟩:=by
 refine ⟨_,by rw [D0p],fun k hk=>?_⟩
 rw [D0p] at hk
 by_cases e:k=i
 ·subst e
  rw [B4];unfold gI
  rw [C9i,List.getElem?_set_self hk];rfl
 ·rw [J1 e,h k hk];unfold gI
  rw [C9i,C9i,D0H (fun e2=>e e2.symm)]
theorem B4W {rates:List Int} {D:Int→Bool} {x:QE} {E:List QE} (h:U1 rates D=x::E):∃ i,i<rates.length∧i∈L3 rates x.1∧gI rates i = -x.1:=by
 have hx:x∈A6a rates:=(D0C.1 (show x∈U1 rates D by rw [h];exact C9C ..)).1
 obtain ⟨i,hi,rfl⟩:=C9H.1 ((A2l rates).mem_iff.1 hx)
 have hi:=C9S.1 hi
 exact ⟨i,hi,D0C.2 ⟨C9S.2 hi,D2a _⟩,by show gI rates i = - -(gI rates i);omega⟩
theorem C2p {rates:List Int} {k:Int} {j:Nat} (hj:j<(L3 rates k).length):(gN (L3 rates k) j).toNat<rates.length∧0≤gN (L3 rates k) j:=by
 have hm:(L3 rates k).getD j 0∈L3 rates k:=by rw [C9i,C9p hj];exact D0t hj
 have:=(V4 hm).2.1
 exact ⟨by show ((((L3 rates k).getD j 0:Nat):Int)).toNat<_;omega,by show 0≤(((L3 rates k).getD j 0:Nat):Int);omega⟩
theorem B2P (es:List QE):∃ c1 c2 is,B7I es=.tuple [eI c1,eI c2,.bool is]:=by
 cases es with
 | nil=>exact ⟨0,0,false,rfl⟩
 | cons y es=>exact ⟨y.1,y.2,true,rfl⟩
theorem A5B {c1 c2 d1 d2:Int} {is js:Bool} (h:AV.tuple [eI c1,eI c2,.bool is]=.tuple [eI d1,eI d2,.bool js]):c1=d1∧c2=d2∧is=js:=by
 injection h with h;injection h with h1 h;injection h with h2 h;injection h with h3 h
 injection h1 with _ h1;injection h2 with _ h2;injection h3 with h3
 exact ⟨h1,h2,h3⟩
set_option maxHeartbeats 8000000 in
theorem B4F (t:Y6) (rates nets:List Int) (hn:A2L nets) (hr:rates.length=nets.length) (hq:∀ x∈rates,0≤x∧x≤10000) (st:St) :
  S P 191 [A0t t,B2 rates,B2 nets] st fun v st'=>v=B2 (G6 t rates nets)∧st'=st:=by
 have hnl:=hn.len
 have hol:(G6 t rates nets).length=nets.length:=by unfold G6;rw [C9o,D0h]
 refine S.post (post:=fun v s=>∃ bo,v=.own 1 bo 0 nets.length∧st bo=none∧(∃ y,IsL (G6 t rates nets) y∧s bo=some y)∧E9 st s) ?_ (fun v s ⟨bo,h1,h2,⟨y,⟨f,hy,hf⟩,hb⟩,h4⟩=>⟨_,st,⟨rfl,rfl⟩,by
  subst hy;rw [h1]
  have e:B2 (G6 t rates nets)=.arr 1 nets.length (fun i=>eI (gI (G6 t rates nets) i)):=by unfold B2 B0;rw [hol]
  rw [e]
  exact (K1 hb rfl (by show nets.length≤(G6 t rates nets).length;omega) (fun i hi=>hf i (by omega))).trans ((E9.del h4 h2).shift _)⟩)
 refine F5 [3] Tryz.func191 ?_
 refine mkO rfl rfl rfl (by show 8 * nets.length≤_;omega) (by omega) (by rfl) (fun bo hbo=>?_);conv=>whnf
 refine call (A7D _) (fun v s hv=>?_)
 obtain ⟨q,rfl,hQ⟩:=hv
 conv=>whnf
 refine lp rates.length [2,3,7,8,28,29,30] (fun i vs s=>vs=[B2 nets,.fptr (A0t t) 0,.own 1 bo 0 nets.length,.optr 1 q 0 0,B2 rates,eI rates.length,eI i]∧T8 (upd st bo ⟨2,1,nets.length,fun _=>H4 r2.zero⟩) q true ((List.range i).map (B6V rates)) s) ?_ ?_
 ·conv=>whnf
  exact ⟨rfl,hQ⟩
 clear hQ s
 rintro i vs s hi ⟨rfl,hQ⟩
 conv=>whnf
 cases h1:decide ((i:Int)<(rates.length:Int))
 case true =>
  have hi':=X4 h1
  have hx:=hq (gI rates (i:Int).toNat) (A7 hi')
  have hw:IntKind.i64.wrap (0 - rates.getD (i:Int).toNat default) = -(gI rates (i:Int).toNat):=(A6 (show _≤0 - gI rates (i:Int).toNat by omega) (show 0 - gI rates (i:Int).toNat≤_ by omega)).trans (by show 0 - gI rates (i:Int).toNat=_;omega)
  conv=>whnf
  refine I8 ?_
  rw [hw]
  refine call (A4O _ q _ _ _ _ hQ (by rw [C9o,D0h];omega)) (fun v s' hv=>?_)
  obtain ⟨rfl,hQ2⟩:=hv
  conv=>whnf
  refine I9 ?_
  exact nx hi' ⟨by rw [C1 (by omega)],by rw [D1m,C9P];exact hQ2⟩
 obtain rfl:=L5 h1 hi
 have hQ2:=T8.perm hQ (A2l rates).symm
 clear hQ
 conv=>whnf
 refine ⟨[2,3,7,8],fun m vs u=>∃ (D:Int→Bool) (fl:Bool) (L:List Int),m=(U1 rates D).length∧vs=[B2 nets,.fptr (A0t t) 0,.own 1 bo 0 nets.length,.optr 1 q 0 0]∧B3E t rates nets D L∧OQ bo q L fl (U1 rates D) st u,?_,?_⟩
 ·conv=>whnf
  exact ⟨_,fun _=>false,true,List.replicate nets.length 0,rfl,rfl,⟨D0i,fun i hi=>by
   rw [if_neg (by simp)];unfold gI
   rw [C9i,D1I];split<;>rfl⟩,hbo,_,⟨fun _=>H4 r2.zero,by rw [D0i],fun i hi=>by
   unfold gI;rw [C9i,D1I];split<;>rfl⟩,by rw [B1j];exact hQ2⟩
 clear hQ2
 rintro m vs u ⟨D,fl,L,rfl,rfl,hdone,hb0,y,hy,hQ3⟩
 conv=>whnf
 refine B6 (A5E _ q fl _ _ hQ3) ?_
 cases hE:U1 rates D with
 | nil =>
  conv=>whnf
  have hL:=B6S hdone hr hE
  rw [hE] at hQ3
  exact ⟨bo,rfl,hb0,⟨y,by rw [←hL];exact hy,hQ3.sup bo _ (A0 ..)⟩,E9.drop hQ3.sup hb0⟩
 | cons x E =>
  obtain ⟨hD,hEq⟩:=B2z hE
  obtain ⟨i0,hi0,hi0m,hi0r⟩:=B4W hE
  have hsort:=A4J rates D
  have hkey:∀ y∈U1 rates (fun z=>D z||z==x.1),(y.1==x.1)=false:=A9J
  have hmeas:(U1 rates (fun z=>D z||z==x.1)).length<E.length+1:=by
   have h1:=D1j List.length hEq
   rw [C9E,C9o,C9G] at h1
   have h2:0<(L3 rates x.1).length:=List.length_pos_of_mem hi0m
   omega
  have hnext:=B4M (k:=x.1) hdone hr
  have hparts:(A4e t rates nets x.1).length=(L3 rates x.1).length∧∀ st,S P 238 [eI (J6 t (A3 ((L3 rates x.1).map (gI nets))) (-x.1)),B2 ((L3 rates x.1).map (gI nets))] st fun v st'=>v=.tuple [B2 (A4e t rates nets x.1),eI 0]∧st'=st:=by
   have hw:=A2b (t:=t) hn hr (i:=i0) (hq (gI rates i0) (A7 hi0))
   have e:F1 rates nets i0=(L3 rates x.1).map (gI nets):=by unfold F1;rw [(V4 hi0m).2.2]
   rw [e,hi0r] at hw
   have h3:=(P1 hw).2.1
   refine ⟨by unfold A4e;rw [h3,C9o],fun st=>?_⟩
   exact A5x _ _ hw st
  have hGok:=fun j=>C2p (rates:=rates) (k:=x.1) (j:=j)
  have hrate:0≤-x.1∧-x.1≤10000:=by rw [←hi0r];exact hq (gI rates i0) (A7 hi0)
  have hGl:(L3 rates x.1).length≤1000:=by
   have:(L3 rates x.1).length≤(List.range rates.length).length:=D1B _ _
   rw [D0h] at this;omega
  have hgsum:0≤A3 ((L3 rates x.1).map (gI nets)):=B8 fun v hv=>by
   obtain ⟨j,hj,rfl⟩:=C9H.1 hv
   exact hn.pos _ (A7 (by have:=(V4 hj).2.1;omega))
  have hgs:∀ j,j≤(L3 rates x.1).length→0≤A3 (((L3 rates x.1).take j).map (gI nets))∧A3 (((L3 rates x.1).take j).map (gI nets))≤10000000000000:=fun j hj=>by
   have hsub:(((L3 rates x.1).take j).map (gI nets)).Sublist nets:=by
    have h1:(((L3 rates x.1).take j).map (gI nets)).Sublist ((List.range nets.length).map (gI nets)):=by
     refine List.Sublist.map _ ((List.take_sublist _ _).trans ?_)
     unfold L3;rw [hr];exact D0X
    rw [A4Q] at h1;exact h1
   have h2:=B1N hsub hn.pos
   have h3:=hn.sum
   exact ⟨B8 fun v hv=>hn.pos v (hsub.subset hv),by omega⟩
  rw [hE] at hQ3 hsort
  have hQ0:x::E=QJ (L3 rates x.1) x.1 (U1 rates (fun z=>D z||z==x.1)) 0:=hEq
  generalize L3 rates x.1=G at *
  generalize hRest:U1 rates (fun z=>D z||z==x.1)=Rest at *
  generalize A4e t rates nets x.1=X at *
  clear hEq
  conv=>whnf
  rw [show decide ((((x::E).length:Nat):Int)>0)=true by rw [C9n,C9G];omega];conv=>whnf
  refine J0 (A9X _ q fl x E _ hQ3 (D0F.1 hsort).1) ?_
  refine J0 (A9X _ q fl x E _ hQ3 (D0F.1 hsort).1) ?_
  have hsortQ:∀ j,j≤G.length→(QJ G x.1 Rest j).Pairwise fun a b=>D0 b a=false:=fun j hj=>by
   rw [hQ0] at hsort
   refine D1D ?_ hsort
   unfold QJ
   rw [List.drop_zero]
   exact List.Sublist.append ((D1G j G).map _) (List.Sublist.refl _)
  refine lp G.length [2,3,7,8,11,14,15,16,17,18,19] (fun j vs u=>∃ (fl:Bool) (lv wv:AV) (c1 c2:Int) (is:Bool),vs=[B2 nets,.fptr (A0t t) 0,.own 1 bo 0 nets.length,.optr 1 q 0 0,eI x.1,lv,wv,eI (A3 ((G.take j).map (gI nets))),eI c1,eI c2,.bool is]∧B7I (QJ G x.1 Rest j)=.tuple [eI c1,eI c2,.bool is]∧ROut (fun s t=>ROut (OQ bo q L fl (QJ G x.1 Rest j)) 3 1 (fun i=>eI (gN G i)) j s lv t) 2 1 (fun i=>eI (gI (G.map (gI nets)) i)) j st wv u) ?_ ?_
  ·conv=>whnf
   exact ⟨fl,.emp,.emp,x.1,x.2,true,rfl,by rw [←hQ0];rfl,ROut.start (show ROut _ _ _ _ 0 st .emp u from ROut.start (show OQ bo q L fl (QJ G x.1 Rest 0) st u from ⟨hb0,y,hy,by rw [←hQ0];exact hQ3⟩) _ _ _) _ _ _⟩
  rintro j vs w hj ⟨fl2,lv,wv,c1,c2,is,rfl,hpk,hR⟩
  by_cases hjl:j<G.length
  ·have hQn:=B8T (G:=G) (k:=x.1) (Rest:=Rest) hjl
   rw [hQn] at hpk
   obtain ⟨rfl,rfl,rfl⟩:=A5B hpk
   have hGj:=hGok j hjl
   have hxn:0≤gI nets (gN G j).toNat∧gI nets (gN G j).toNat≤A3 nets:=⟨hn.pos _ (A7 (by omega)),I7 hn.pos (A7 (by omega))⟩
   have hns:=hn.sum
   have hg1:=hgs j hj
   have hg2:=hgs (j+1) hjl
   have hgt:((G.take (j+1)).map (gI nets))=((G.take j).map (gI nets))++[gI nets (gN G j).toNat]:=by
    rw [D0T hjl,C9P]
    have:(gN G j).toNat=G[j]:=by show (((G.getD j 0:Nat):Int)).toNat=_;rw [C9i,C9p hjl];rfl
    rw [this];rfl
   have hgm:gI (G.map (gI nets)) j=nets.getD (gN G j).toNat default:=by
    unfold gI
    rw [C9i,D0y,C9p hjl]
    have:(gN G j).toNat=G[j]:=by show (((G.getD j 0:Nat):Int)).toNat=_;rw [C9i,C9p hjl];rfl
    rw [this];rfl
   have hsum:IntKind.i64.wrap (A3 ((G.take j).map (gI nets))+nets.getD (gN G j).toNat default)=A3 ((G.take (j+1)).map (gI nets)):=by
    rw [hgt,D1] at hg2 ⊢
    have e1:A3 [gI nets (gN G j).toNat]=gI nets (gN G j).toNat:=by rw [F6];exact D1C _
    rw [e1] at hg2 ⊢
    exact A6 (show _≤A3 ((G.take j).map (gI nets))+gI nets (gN G j).toNat by omega) (show A3 ((G.take j).map (gI nets))+gI nets (gN G j).toNat≤_ by omega)
   conv=>whnf
   rw [show (x.1==x.1)=true from D2a _];conv=>whnf
   obtain ⟨s0,hw0,s1,hl0,hb1,y1,hy1,hq1⟩:=hR
   rw [hQn] at hq1
   have hsj:=hsortQ j hj
   rw [hQn] at hsj
   refine call (A5F _ q fl2 (x.1,gN G j) (QJ G x.1 Rest (j+1)) _ hq1 (D0F.1 hsj).1) (fun v w' hv=>?_)
   obtain ⟨rfl,hq2⟩:=hv
   have hin:ROut (OQ bo q L false (QJ G x.1 Rest (j+1))) 3 1 (fun i=>eI (gN G i)) j s0 lv w':=⟨s1,hl0,hb1,y1,hy1,hq2⟩
   have hwv:wv=.emp∨∃ b,wv=.own 1 b 0 j:=ROut.head (show ROut (fun s t=>ROut (OQ bo q L false (QJ G x.1 Rest (j+1))) 3 1 (fun i=>eI (gN G i)) j s lv t) 2 1 (fun i=>eI (gI (G.map (gI nets)) i)) j st wv w' from ⟨s0,hw0,hin⟩)
   have hlv:=ROut.head hin
   obtain ⟨d1,d2,js,hpk2⟩:=B2P (QJ G x.1 Rest (j+1))
   have hB1:=A6T bo q L false (QJ G x.1 Rest (j+1))
   rcases hlv with rfl | ⟨bl,rfl⟩<;>rcases hwv with rfl | ⟨bw,rfl⟩
   all_goals
    conv=>whnf
    refine ⟨[2,3,8,9,10],[],[],.qui 0 (.qui 1 (.qui 4 (.qui 5 (.qui 6 (.qui 7 (.two 2 8 (.two 3 8 (.gen 8 (.gen 9 (.gen 10 (.qui 11 (.qui 12 .done))))) (.two 3 9 (.gen 9 (.gen 10 (.qui 11 (.qui 12 .done)))) (.gen 3 (.gen 10 (.qui 11 (.qui 12 .done)))))) (.two 2 9 (.two 3 9 (.gen 9 (.gen 10 (.qui 11 (.qui 12 .done)))) (.gen 3 (.gen 10 (.qui 11 (.qui 12 .done))))) (.gen 2 (.gen 3 (.gen 10 (.qui 11 (.qui 12 .done)))))))))))),by kernel_rfl,?_⟩;conv=>whnf
    refine I8 ?_
    repeat' (refine And.intro ?_ ?_<;>(conv=>whnf))
    all_goals
     refine ROut.app (q:=r3) hB1 rfl rfl rfl rfl rfl (f:=fun i=>eI (gN G i)) (by rfl) (by show (j+1) * 8≤140737488355328;omega) hin (fun lv' w2 hin2=>?_)
     have hout2:ROut (fun s t=>ROut (OQ bo q L false (QJ G x.1 Rest (j+1))) 3 1 (fun i=>eI (gN G i)) (j+1) s lv' t) 2 1 (fun i=>eI (gI (G.map (gI nets)) i)) j st _ w2:=⟨s0,hw0,hin2⟩
     conv=>whnf
     refine ROut.app (q:=r2) (V2 hB1 _ _ _ _ _) rfl rfl rfl rfl rfl (f:=fun i=>eI (gI (G.map (gI nets)) i)) (by show _=eI _;rw [hgm];rfl) (by show (j+1) * 8≤140737488355328;omega) hout2 (fun wv' w3 hout3=>?_);conv=>whnf
     refine I8 ?_
     rw [hsum]
     obtain ⟨s2,hw2,s3,hl3,hb3,y3,hy3,hq3⟩:=hout3
     have hpc:=B7S _ q false _ _ hq3 (hsortQ (j+1) hjl)
     rw [hpk2] at hpc
     refine J0 hpc ?_
     refine I9 ?_
     exact nx hjl ⟨false,lv',wv',d1,d2,js,rfl,hpk2,⟨s2,hw2,s3,hl3,hb3,y3,hy3,hq3⟩⟩
  ·obtain rfl:j=G.length:=by omega
   rw [B6s] at hpk
   have hexit:(is&&(c1==x.1))=false:=by
    cases Rest with
    | nil=>obtain ⟨rfl,rfl,rfl⟩:=A5B hpk;rfl
    | cons r Rest=>obtain ⟨rfl,rfl,rfl⟩:=A5B hpk;exact hkey r (C9C ..)
   rw [C9u]
   have hM:=fun u=>B2F t (A3 (G.map (gI nets))) (-x.1) hrate u
   have hwn:IntKind.i64.wrap (0 - x.1) = -x.1:=(A6 (by omega) (by omega)).trans (by omega)
   case' neg=>cases is
   case' neg.true=>have hne:(c1==x.1)=false:=hexit
   case' neg.true=>conv=>whnf
   case' neg.true=>rw [hne]
   all_goals
    conv=>whnf
    rw [hwn]
    refine B6 (hM _) ?_
    generalize J6 t (A3 (G.map (gI nets))) (-x.1)=M at hparts
    conv=>whnf
    obtain ⟨w2,hsh,hR2⟩:=ROut.shift (V2 (A6T bo q L fl2 Rest) _ _ _ _ _) (show ROut (fun s t=>ROut (OQ bo q L fl2 Rest) 3 1 (fun i=>eI (gN G i)) G.length s lv t) 2 1 (fun i=>eI (gI (G.map (gI nets)) i)) G.length st wv w by rw [B6s] at hR;exact hR)
    have e0:AV.arr 1 G.length (fun i=>eI (gI (G.map (gI nets)) i))=B2 (G.map (gI nets)):=by unfold B2 B0;rw [C9o]
    rw [e0] at hsh
    refine D3 (args':=[eI M,B2 (G.map (gI nets))]) (A4.cons (A4.keep _ _) hsh) (B6 (hparts.2 _) ?_);conv=>whnf
    refine lp X.length [2,3,7,8,14,97,98,99] (fun j vs u=>vs=[B2 nets,.fptr (A0t t) 0,.own 1 bo 0 nets.length,.optr 1 q 0 0,lv,B2 X,eI X.length,eI j]∧ROut (OQ bo q (A4f L G X j) fl2 Rest) 3 1 (fun i=>eI (gN G i)) G.length st lv u) ?_ ?_
    ·conv=>whnf
     exact ⟨rfl,hR2⟩
    rintro j vs v hjx ⟨rfl,hR3⟩
    have hPl:=A7C L G X j
    have hdl:=hdone.1
    conv=>whnf
    cases h5:decide ((j:Int)<(X.length:Int))
    case' true =>
     have hj5:=X4 h5
     have hGj:=hGok j (by omega)
     obtain ⟨s0,hcl,h1o,yo,⟨fo,rfl,hfo⟩,h2o⟩:=hR3
     obtain ⟨b,g,h3,rfl,rfl,h4⟩:∃ b g,st b=none∧lv=.own 1 b 0 G.length∧s0=upd st b ⟨3,1,G.length,g⟩∧∀ k,k<G.length→g k=eI (gN G k):=by
      rcases hcl with ⟨h0,_⟩ | ⟨_,b,g,h3,h4,h5,h6⟩
      ·omega
      ·exact ⟨b,g,h3,h4,h5,h6⟩
     have hbb:b≠bo:=fun e=>by subst e;rw [A0] at h1o;cases h1o
     conv=>whnf
     refine I8 ?_
     refine I8 ?_
     refine ldV (h2o.sup b _ (by rw [A5 hbb];exact A0 ..)) rfl (by show 0+((j:Nat):Int).toNat<G.length;omega) (v:=eI (gN G j)) (by show g (0+((j:Nat):Int).toNat)=_;rw [show 0+((j:Nat):Int).toNat=j by omega];exact h4 j (by omega)) ?_;conv=>whnf
     refine I8 ?_
     refine stV (h2o.sup bo _ (A0 ..)) rfl (by show 0+(gN G j).toNat<(A4f L G X j).length;omega) (hfo (0+(gN G j).toNat) (by omega)) (by rfl) ?_;conv=>whnf
     refine I9 ?_
     have hset:IsL (A4f L G X (j+1)) ⟨2,1,(A4f L G X j).length,G8 fo (0+(gN G j).toNat) (eI (gI X (j:Int).toNat))⟩:=by
      have:=IsL.set (i:=(gN G j).toNat) (v:=gI X j) hfo
      rw [show 0+(gN G j).toNat=(gN G j).toNat by omega,show (j:Int).toNat=j by omega]
      exact this
     have hw2:=(B3w q fl2 Rest).write (y':=⟨2,1,(A4f L G X j).length,G8 fo (0+(gN G j).toNat) (eI (gI X (j:Int).toNat))⟩) h2o (A0 ..)
     rw [I2] at hw2
     exact nx hj5 ⟨by rw [C1 (by omega)],⟨_,hcl,h1o,_,hset,hw2⟩⟩
    obtain rfl:=L5 h5 hjx
    conv=>whnf
    refine I9 ?_
    have hfin:=ROut.dropped (A6T bo q (A4f L G X X.length) fl2 Rest) hR3
    rw [hparts.1] at hfin
    exact ⟨Rest.length,hmeas,_,fl2,A4f L G X G.length,by rw [hRest],rfl,hnext,by rw [hRest];exact hfin⟩
end Go.Proofs.YtaapofnkmpiknaaGreat
