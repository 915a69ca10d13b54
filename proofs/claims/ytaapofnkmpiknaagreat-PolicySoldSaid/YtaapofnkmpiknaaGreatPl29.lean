/- Part 29 of the proof: contracts of the functions that the law reaches -/
import Derived.Test.YtaapofnkmpiknaaGreatPl28
set_option maxRecDepth 100000
set_option linter.unusedVariables false
set_option linter.unusedSimpArgs false
namespace Go.Proofs.YtaapofnkmpiknaaGreat
open Go Go.Ab
attribute [local irreducible] upd del
theorem B6C {t:Int} {l:List Pay} {i:Nat} (h:(M9 t (l.take i)).1≤1):∀ j,i≤j→M9 t (l.take j)=M9 t (l.take i)
 | 0,hj=>by rw [show i=0 by omega]
 | j+1,hj=>by
  by_cases e:i=j+1
  ·rw [e]
  ·have ih:=B6C h j (by omega)
   by_cases hl:j<l.length
   ·rw [show M9 t (l.take (j+1))=A3Q (M9 t (l.take j)) (l.getD j default) from H6 hl _ _,ih]
    unfold A3Q
    rw [if_neg (by omega)]
   ·rw [D8v (by omega)] at ih ⊢
    exact ih
set_option maxHeartbeats 2000000 in
theorem B8J (t:Int) (l:List Pay) (h0:0≤t) (ht:t≤100000000000000) (hl:l.length≤100000) (st:St):S P 57 [eI t,A8 2 B8b l] st fun v st'=>v=A8 2 B8b (Q0 t l)∧st'=st:=by
 refine A0L (ty:=73) ?_
 refine F4 [7] Tryz.func57 ?_
 refine lp (min l.length 2) [0,1,5,6] (fun i vs s=>∃ sv,vs=[eI (M9 t (l.take i)).1,A8 2 B8b l,sv,eI i]∧E6 73 2 B8b (M9 t (l.take i)).2 st sv s) ?_ ?_
 ·conv=>whnf
  exact ⟨.emp,rfl,E6.start _ _ _ _⟩
 rintro i vs s hi ⟨sv,rfl,hc⟩
 have hin:=A7Q h0 ht l i (by omega)
 have hfin:(¬ i<l.length∨¬ i<2∨¬(M9 t (l.take i)).1>1)→M9 t (l.take 2)=M9 t (l.take i):=fun h=>by
  rcases h with h | h | h
  ·rw [show i=l.length by omega,D6O,D8v (by omega)]
  ·rw [show i=2 by omega]
  ·exact B6C (by omega) 2 (by omega)
 have hst:i<l.length→M9 t (l.take (i+1))=A3Q (M9 t (l.take i)) (l.getD (i:Int).toNat default):=fun h=>H6 h _ _
 have hP:Q0 t l=if (M9 t (l.take 2)).1>0 then (M9 t (l.take 2)).2++[⟨1+B5 l.length 5,(M9 t (l.take 2)).1⟩] else (M9 t (l.take 2)).2:=rfl
 generalize hS1:M9 t (l.take (i+1))=S1 at hst
 generalize M9 t (l.take 2)=S2 at hfin hP
 generalize M9 t (l.take i)=S0 at *
 obtain ⟨L,O⟩:=S0
 obtain ⟨⟨z0,z1⟩,-,-,z3⟩:=hin
 simp only at *
 conv=>whnf
 refine B9 (fun h1=>?_) (fun h1=>?_)<;>rw [h1]<;>simp only [D6F,D6E] at h1
 case' refine_1 =>
  conv=>whnf
  refine B9 (fun h2=>?_) (fun h2=>?_)<;>rw [h2]<;>simp only [D6F,D6E] at h2
 case' refine_1.refine_1 =>
  conv=>whnf
  refine B9 (fun h3=>?_) (fun h3=>?_)<;>rw [h3]<;>simp only [D6F,D6E] at h3
 case' refine_1.refine_1.refine_1 =>
  have hi':i<min l.length 2:=by omega
  have hS:=hst (by omega)
  have m1:=C9 (l.getD (i:Int).toNat default).kind (n:=5) (by decide)
  have m2:=C9 (l.getD (i:Int).toNat default).amount (n:=L) (by omega)
  have w1:IntKind.i64.wrap (1+B5 (l.getD (i:Int).toNat default).kind 5)=1+B5 (l.getD (i:Int).toNat default).kind 5:=A5 (by omega) (by omega)
  have w2:IntKind.i64.wrap (1+B5 (l.getD (i:Int).toNat default).amount L)=1+B5 (l.getD (i:Int).toNat default).amount L:=A5 (by omega) (by omega)
  have w3:IntKind.i64.wrap (L - (1+B5 (l.getD (i:Int).toNat default).amount L))=L - (1+B5 (l.getD (i:Int).toNat default).amount L):=A5 (by omega) (by omega)
  have n1:=fun s=>A0f (l.getD (i:Int).toNat default).kind 5 (by decide) (by decide) s
  have n2:=fun s=>P4 (l.getD (i:Int).toNat default).amount L (by omega) (by omega) s
  unfold A3Q B1Q at hS
  rw [if_pos h3] at hS
  generalize B5 (l.getD (i:Int).toNat default).kind 5=K at *
  generalize B5 (l.getD (i:Int).toNat default).amount L=M at *
  conv=>whnf
  refine ⟨[16,17],[4,5,11,13],List.range 18,by kernel_rfl,?_⟩;conv=>whnf
  refine E7 ?_
  refine ⟨_,fun s _=>⟨rfl,rfl⟩,?_⟩;conv=>whnf
  refine ⟨_,fun s _=>H8 (n1 s),?_⟩;conv=>whnf
  refine E7 ?_
  refine ⟨_,fun s _=>⟨rfl,rfl⟩,?_⟩;conv=>whnf
  refine ⟨_,fun s _=>H8 (n2 s),?_⟩;conv=>whnf
  rw [w1,w2]
  refine B9 (fun h4=>?_) (fun h4=>?_)<;>rw [h4]<;>simp only [D6F,D6E] at h4
  ·rw [if_pos h4] at hS;conv=>whnf
   refine E6.app (q:=r73) (y:=(⟨1+K,1+M⟩:Pay)) rfl rfl rfl rfl rfl rfl (by show (O.length+1) * 16≤140737488355328;omega) hc (fun sv' s' hc'=>?_);conv=>whnf
   rw [w3]
   refine G2 ?_
   exact nx hi' ⟨sv',by rw [B4 (by omega),hS1,hS],by rw [hS1,hS];exact hc'⟩
  ·rw [if_neg h4] at hS;conv=>whnf
   refine G2 ?_
   exact nx hi' ⟨sv,by rw [B4 (by omega),hS1,hS],by rw [hS1,hS];exact hc⟩
 all_goals
  have hend:=hfin (by first | exact .inl (by omega) | exact .inr (.inl (by omega)) | exact .inr (.inr (by omega)))
  subst hend
  have m5:=fun s=>A0f (l.length:Int) 5 (by decide) (by decide) s
  have m6:=C9 (l.length:Int) (n:=5) (by decide)
  have w5:IntKind.i64.wrap (1+B5 (l.length:Int) 5)=1+B5 (l.length:Int) 5:=A5 (by omega) (by omega)
  simp only at hP
  rw [hP]
  generalize B5 (l.length:Int) 5=K at *
  conv=>whnf
  refine B9 (fun h6=>?_) (fun h6=>?_)<;>rw [h6]<;>simp only [D6F,D6E] at h6
  ·rw [if_pos h6];conv=>whnf
   refine I2 (m5 _) ?_
   rw [w5]
   refine E6.app (q:=r73) (y:=(⟨1+K,L⟩:Pay)) rfl rfl rfl rfl rfl rfl (by show (O.length+1) * 16≤140737488355328;omega) hc (fun sv' s' hc'=>?_);conv=>whnf
   exact hc'
  ·rw [if_neg h6];conv=>whnf
   exact hc
theorem B2p (items:List Ab.Item) (adds:List Add) (hi:items.length≤9223372036854775807) (st:St) :
  S P 55 [A8 4 E9 items,A8 2 A8s adds] st fun v st'=>v=.tuple [A8 3 J1 (A2J items adds).1,eI (A2J items adds).2]∧st'=st:=by
 have hB:A2J items adds=if adds.length<1∨adds.length>1000 then ([],2) else if (adds.any A4Y)=true then ([],2) else if (adds.any fun x=>decide (P9 items x.sku<0))=true then ([],7) else (adds.map (R4 items),0):=rfl
 refine S.post (post:=fun v s'=>(∃ e,A2J items adds=([],e)∧v=.tuple [.emp,eI e]∧F1 st s')∨(∃ sv,A2J items adds=(adds.map (R4 items),0)∧v=.tuple [sv,eI 0]∧E6 137 3 J1 (adds.map (R4 items)) st sv s')) ?_ (fun v s' hv=>⟨_,st,⟨rfl,rfl⟩,by
  rcases hv with ⟨e,h1,rfl,h2⟩ | ⟨sv,h1,rfl,h2⟩
  ·rw [h1];exact (A6.tuple (A6.cons (I9 3 _) (A6.keep _ _)) rfl).trans (h2.shift _)
  ·rw [h1];exact A6.tuple (A6.cons h2.shift (A6.keep _ _)) rfl⟩)
 refine F4 [] Tryz.func55 ?_
 refine B9 (fun h1=>?_) (fun h1=>?_)<;>rw [h1]<;>simp only [D6F,D6E] at h1
 ·rw [if_pos (.inl (by omega))] at hB;conv=>whnf
  exact .inl ⟨2,hB,rfl,F1.refl _⟩
 conv=>whnf
 refine B9 (fun h2=>?_) (fun h2=>?_)<;>rw [h2]<;>simp only [D6F,D6E] at h2
 ·rw [if_pos (.inr (by omega))] at hB;conv=>whnf
  exact .inl ⟨2,hB,rfl,F1.refl _⟩
 rw [if_neg (by omega)] at hB;conv=>whnf
 refine lp adds.length [0,1,6] (fun i vs t=>(∀ j,j<i→A4Y (adds.getD j default)=false)∧vs=[A8 4 E9 items,A8 2 A8s adds,eI i]∧t=st) ?_ ?_
 ·conv=>whnf
  exact ⟨fun j hj=>absurd hj (by omega),rfl,rfl⟩
 rintro i vs t hi' ⟨hno,rfl,rfl⟩
 conv=>whnf
 cases h3:decide ((i:Int)<(adds.length:Int))
 case true =>
  have hi2:=E2 h3
  have hbad:A4Y (adds.getD (i:Int).toNat default)=true→A2J items adds=([],2):=fun h=>by
   rw [if_pos (D8r.2 ⟨_,A7 hi2,h⟩)] at hB;exact hB
  conv=>whnf
  refine E7 ?_
  refine B9 (fun h4=>?_) (fun h4=>?_)<;>rw [h4]
  ·conv=>whnf
   exact .inl ⟨2,hbad (by unfold A4Y;rw [h4];rfl),rfl,F1.refl _⟩
  conv=>whnf
  refine E7 ?_
  refine B9 (fun h5=>?_) (fun h5=>?_)<;>rw [h5]
  ·conv=>whnf
   exact .inl ⟨2,hbad (by unfold A4Y;rw [h5,D7v]),rfl,F1.refl _⟩
  conv=>whnf
  refine G2 ?_
  exact nx hi2 ⟨H5 hno (show A4Y (adds.getD (i:Int).toNat default)=false by unfold A4Y;rw [h4,h5];rfl),by rw [B4 (by omega)],rfl⟩
 obtain rfl:=C5 h3 hi'
 rw [if_neg (by
  rw [D7K,D7R]
  intro x hx
  obtain ⟨j,hj,rfl⟩:=D5 hx
  rw [hno j hj];simp)] at hB
 conv=>whnf
 refine lp adds.length [0,1,7,8] (fun i vs s=>∃ sv,(∀ j,j<i→(fun x:Add=>decide (P9 items x.sku<0)) (adds.getD j default)=false)∧vs=[A8 4 E9 items,A8 2 A8s adds,sv,eI i]∧E6 137 3 J1 ((adds.take i).map (R4 items)) t sv s) ?_ ?_
 ·conv=>whnf
  exact ⟨.emp,fun j hj=>absurd hj (by omega),rfl,E6.start _ _ _ _⟩
 rintro i vs s hi2 ⟨sv,hno2,rfl,hc⟩
 conv=>whnf
 cases h4:decide ((i:Int)<(adds.length:Int))
 case false =>
  obtain rfl:=C5 h4 hi2
  rw [D6O] at hc
  rw [if_neg (by
   rw [D7K,D7R]
   intro x hx
   obtain ⟨j,hj,rfl⟩:=D5 hx
   have:=hno2 j hj
   simp only at this
   rw [this];simp)] at hB
  conv=>whnf
  exact .inr ⟨sv,hB,rfl,hc⟩
 have hi3:=E2 h4
 have hF:=fun u=>B5d items (adds.getD (i:Int).toNat default).sku hi u
 have hln:((adds.take i).map (R4 items)).length=i:=by rw [D6J,D6N];omega
 have htk:(adds.take (i+1)).map (R4 items)=(adds.take i).map (R4 items)++[R4 items (adds.getD (i:Int).toNat default)]:=by rw [L0 hi3,D7k];rfl
 have hrng:=A9u (fun x:Ab.Item=>x.sku.toList==(adds.getD (i:Int).toNat default).sku.toList) items
 have hAL:R4 items (adds.getD (i:Int).toNat default)=⟨(adds.getD (i:Int).toNat default).sku,(adds.getD (i:Int).toNat default).qty,(items.getD (P9 items (adds.getD (i:Int).toNat default).sku).toNat default).price⟩:=rfl
 have hno3:=fun h=>H5 (q:=fun j=>(fun x:Add=>decide (P9 items x.sku<0)) (adds.getD j default)=false) hno2 h
 have hpos:(fun x:Add=>decide (P9 items x.sku<0)) (adds.getD (i:Int).toNat default)=true→A2J items adds=([],7):=fun h=>by
  rw [if_pos (D8r.2 ⟨_,A7 hi3,h⟩)] at hB;exact hB
 have hf0:P9 items (adds.getD (i:Int).toNat default).sku=P9 items (adds.getD i default).sku:=rfl
 simp only at hpos hno3
 rw [←hf0] at hno3
 generalize hfv:P9 items (adds.getD (i:Int).toNat default).sku=FV at hF hpos hno3 hAL
 have hrng2 : -1≤FV∧FV<items.length:=by rw [←hfv];exact hrng
 conv=>whnf
 refine E7 ?_
 refine I2 (hF _) ?_
 refine B9 (fun h5=>?_) (fun h5=>?_)<;>rw [h5]
 ·conv=>whnf
  exact .inl ⟨7,hpos h5,rfl,hc.sup⟩
 have h5':=D6G h5
 conv=>whnf
 refine ⟨[17,18],[],List.range 20,by kernel_rfl,?_⟩;conv=>whnf
 refine E7 ?_
 refine E7 ?_
 refine E7 ?_
 refine E6.app (y:=R4 items (adds.getD (i:Int).toNat default)) (q:=C6X) rfl rfl rfl rfl rfl (by rw [hAL];rfl) (by rw [hln];show (i+1) * 32≤140737488355328;omega) hc (fun sv' t' hc'=>?_);conv=>whnf
 refine G2 ?_
 exact nx hi3 ⟨sv',hno3 h5,by rw [B4 (by omega)],by rw [htk];exact hc'⟩
def A1b (x:Add):Add:=⟨A1l (A2Q x.sku),1+B5 x.qty 9⟩
def J3 (l:List Add):List Add:=if l.length=0 then [⟨⟨#[97]⟩,2⟩] else (l.take 6).map A1b
theorem B8I (l:List Add) (st:St):S P 54 [A8 2 A8s l] st fun v st'=>v=A8 2 A8s (J3 l)∧st'=st:=by
 refine S.post (post:=fun v s=>(l.length≠0∧E6 57 2 A8s ((l.take 6).map A1b) st v s)∨(l.length=0∧s=st∧∃ F:Nat→AV,F 0=A8s ⟨⟨#[97]⟩,2⟩∧v=.arr 2 1 F)) ?_ (fun v s hv=>⟨_,st,⟨rfl,rfl⟩,by
  unfold J3
  rcases hv with ⟨h,hc⟩ | ⟨h,rfl,F,hF,rfl⟩
  ·rw [if_neg h];exact hc.shift
  ·rw [if_pos h]
   exact A6.arr fun i hi=>by
    have:i=0:=by omega
    subst this;exact hF⟩)
 refine F4 [] Tryz.func54 ?_
 refine lp (min l.length 6) [0,3,4] (fun i vs s=>∃ sv,vs=[A8 2 A8s l,sv,eI i]∧E6 57 2 A8s ((l.take i).map A1b) st sv s) ?_ ?_
 ·conv=>whnf
  exact ⟨.emp,rfl,E6.start _ _ _ _⟩
 rintro i vs s hi ⟨sv,rfl,hc⟩
 have hfin:i=min l.length 6→(l.take i).map A1b=(l.take 6).map A1b:=fun e=>by
  rcases Nat.le_total l.length 6 with h | h
  ·rw [show i=l.length by omega,D6O,D8v h]
  ·rw [show i=6 by omega]
 have hlen:((l.take i).map A1b).length=i:=by rw [D6J,D6N];omega
 conv=>whnf
 refine B9 (fun h1=>?_) (fun h1=>?_)<;>rw [h1]<;>simp only [D6F,D6E] at h1
 case' refine_1 =>
  conv=>whnf
  refine B9 (fun h2=>?_) (fun h2=>?_)<;>rw [h2]<;>simp only [D6F,D6E] at h2
 case' refine_1.refine_1 =>
  have hi':i<min l.length 6:=by omega
  have htk:(l.take (i+1)).map A1b=(l.take i).map A1b++[A1b (l.getD (i:Int).toNat default)]:=A1L (by omega) A1b
  have hm:=C9 (l.getD (i:Int).toNat default).qty (n:=9) (by decide)
  have hw:IntKind.i64.wrap (1+B5 (l.getD (i:Int).toNat default).qty 9)=1+B5 (l.getD (i:Int).toNat default).qty 9:=A5 (by omega) (by omega)
  conv=>whnf
  refine ⟨[16,17],[],List.range 19,by kernel_rfl,?_⟩;conv=>whnf
  refine E7 ?_
  refine cqW (B1T (l.getD (i:Int).toNat default).sku _) ?_
  refine cqW (C4Y (A2Q (l.getD (i:Int).toNat default).sku) _) ?_
  refine E7 ?_
  refine cqW (A0f (l.getD (i:Int).toNat default).qty 9 (by decide) (by decide) _) ?_
  refine E6.app (q:=r57) (y:=A1b (l.getD (i:Int).toNat default)) rfl rfl rfl rfl rfl (by show AV.agg [_,AV.int _ (IntKind.i64.wrap (1+B5 (l.getD (i:Int).toNat default).qty 9))]=_;rw [hw];rfl) (by rw [hlen];show (i+1) * 24≤140737488355328;omega) hc (fun sv' s' hc'=>?_);conv=>whnf
  refine G2 ?_
  exact nx hi' ⟨sv',by rw [B4 (by omega)],by rw [htk];exact hc'⟩
 all_goals
  have hend:=hfin (by omega)
  rw [hend] at hc hlen
  rcases hc with ⟨hn,rfl,rfl⟩ | ⟨hn,b,g,hb,rfl,rfl,hg⟩
 case' refine_1.refine_2.inl | refine_2.inl =>
  conv=>whnf
  exact .inr ⟨by omega,rfl,_,rfl,rfl⟩
 case' refine_1.refine_2.inr | refine_2.inr =>
  have hz:(((((l.take 6).map A1b).length:Nat):Int)==0)=false:=by rw [D7p];omega
  conv=>whnf
  rw [hz];conv=>whnf
  exact .inl ⟨by omega,.inr ⟨hn,b,g,hb,rfl,rfl,hg⟩⟩
end Go.Proofs.YtaapofnkmpiknaaGreat
namespace Go.Ab
open Go
theorem C1S {w:World} {st st':St} (h:∀ b,st b=none↔st' b=none):A3D w st=A3D w st':=by
 funext a
 unfold A3D
 cases h1:st a.block with
 | none=>rw [(h _).1 h1]
 | some x =>
  cases h2:st' a.block with
  | none=>rw [(h _).2 h2] at h1;cases h1
  | some y=>rfl
theorem A6.cellG {vs:List AV} {st st2:St} {a i:Nat} {y:K4} {sv v' w':AV} {pre post:List AV} (h:A6 [sv] st [v'] st2) (hy:st a=some y) (hy2:st2 a=some y) (hi:i<y.n)
  (hf:cellsOf (y.f i)=pre++sv::post) (hw:cellsOf w'=pre++v'::post) (h1:v'.one=true):A6 vs st vs (upd st2 a { y with f:=I4 y.f i w' }):=fun w cs hS hR=>by
 obtain ⟨ds,hok⟩:=hS a y hy
 obtain ⟨c,hc1,hc2⟩:=hok.cell i pre.length sv hi (by rw [hf];show (pre++sv::post)[pre.length]?=some sv;simp)
 obtain ⟨hS2,hR2,hE⟩:=h w #[c] hS ⟨rfl,fun k z c' hz hc'=>by
  cases k with
  | zero=>simp at hz hc';subst hz;subst hc';exact hc2
  | succ k=>simp at hz⟩
 have hv:M0 w st2 v' c:=hR2.2 0 v' c rfl rfl
 have e:A3D w (upd st2 a { y with f:=I4 y.f i w' })=A3D w st2:=C1S fun b=>by
  by_cases eb:b=a
  ·subst eb;rw [A0,hy2];constructor<;>(intro h0;cases h0)
  ·rw [A9 eb]
 have hrep:∀ v c,M0 w st2 v c→M0 w (upd st2 a { y with f:=I4 y.f i w' }) v c:=fun v c hv=>by
  show Rep (A3D w _) _ _ _
  rw [e];exact hv
 refine ⟨fun b x hb=>?_,⟨hR.1,fun k y c hy hc=>hrep _ _ (hE.rep (hR.2 k y c hy hc))⟩,⟨hE.os,hE.tape,hE.output,hE.size,fun b hb hn=>⟨(hE.blk b hb hn).1,?_⟩,hE.szm⟩⟩
 ·by_cases eb:b=a
  ·subst eb
   rw [A0] at hb;cases hb
   obtain ⟨ds2,hok2⟩:=hS2 b y hy2
   have hds:ds2=ds:=by
    have h3:=hok2.heap
    rw [hok.heap] at h3
    cases h3;rfl
   subst hds
   have hlen:=hok2.len i hi
   have hone:=hok2.one i hi
   rw [hf] at hlen hone
   refine ⟨ds2,hok2.heap,hok2.size,fun k hk=>?_,fun k hk=>?_,fun k m z hk hz=>?_⟩
   ·by_cases ek:k=i
    ·subst ek
     show (cellsOf (I4 y.f k _ k)).length=y.e
     unfold I4;rw [if_pos rfl,←hlen]
     show (cellsOf w').length=(pre++sv::post).length
     rw [hw]
     simp
    ·show (cellsOf (I4 y.f i _ k)).length=y.e
     unfold I4;rw [if_neg ek];exact hok2.len k hk
   ·by_cases ek:k=i
    ·subst ek
     show (cellsOf (I4 y.f k _ k)).all AV.one=true
     unfold I4;rw [if_pos rfl]
     have hone':(pre++sv::post).all AV.one=true:=hone
     show (cellsOf w').all AV.one=true
     rw [hw]
     simp only [List.all_append,List.all_cons,D6I] at hone' ⊢
     exact ⟨hone'.1,h1,hone'.2.2⟩
    ·show (cellsOf (I4 y.f i _ k)).all AV.one=true
     unfold I4;rw [if_neg ek];exact hok2.one k hk
   ·have hz:(cellsOf (I4 y.f i w' k))[m]?=some z:=hz
    unfold I4 at hz
    by_cases ek:k=i
    ·subst ek
     rw [if_pos rfl] at hz
     have hz:(pre++v'::post)[m]?=some z:=by rw [←hw];exact hz
     by_cases em:m=pre.length
     ·subst em
      simp at hz
      subst hz
      exact ⟨c,hc1,hrep _ _ hv⟩
     ·have e3:(pre++sv::post)[m]?=some z:=by
       rw [←hz]
       by_cases hm:m<pre.length
       ·rw [D7b hm,D7b hm]
       ·rw [D7a (by omega),D7a (by omega)]
        obtain ⟨q,hq⟩:∃ q,m - pre.length=q+1:=⟨m - pre.length - 1,by omega⟩
        rw [hq];rfl
      obtain ⟨c',k1,k2⟩:=hok2.cell k m z hk (by rw [hf];exact e3)
      exact ⟨c',k1,hrep _ _ k2⟩
    ·rw [if_neg ek] at hz
     obtain ⟨c',k1,k2⟩:=hok2.cell k m z hk hz
     exact ⟨c',k1,hrep _ _ k2⟩
  ·rw [A9 eb] at hb
   obtain ⟨ds2,hok2⟩:=hS2 b x hb
   exact ⟨ds2,hok2.heap,hok2.size,hok2.len,hok2.one,fun k m z hk hz=>by
    obtain ⟨c',k1,k2⟩:=hok2.cell k m z hk hz
    exact ⟨c',k1,hrep _ _ k2⟩⟩
 ·have:=(hE.blk b hb hn).2
  have eb:b≠a:=fun h=>by rw [h,hy] at hn;cases hn
  rw [A9 eb];exact this
theorem A6.cell {vs:List AV} {st st2:St} {a i:Nat} {y:K4} {sv v':AV} {pre post:List AV} (h:A6 [sv] st [v'] st2) (hy:st a=some y) (hy2:st2 a=some y) (hi:i<y.n)
  (hf:y.f i=.agg (pre++sv::post)) (h1:v'.one=true):A6 vs st vs (upd st2 a { y with f:=I4 y.f i (.agg (pre++v'::post)) }) :=
 A6.cellG h hy hy2 hi (by rw [hf];rfl) rfl h1
end Go.Ab
namespace Go.Proofs.YtaapofnkmpiknaaGreat
open Go Go.Ab
attribute [local irreducible] upd del
theorem A6.pre {a b:List AV} {s t:St} (h:A6 a s b t):∀ l:List AV,A6 (l++a) s (l++b) t
 | []=>h
 | x::l=>A6.cons (A6.keep [x] s) (A6.pre h l)
abbrev B4E (l:List A2q):Nat→AV:=fun k=>W6 (l.getD k default)
theorem ROut.put {ty e n b:Nat} {fo:Nat→AV} {s t:St} {sv:AV} {y:K4} (h:ROut F1 ty e fo n (upd s b y) sv t) (y':K4):ROut F1 ty e fo n (upd s b y') sv (upd t b y'):=by
 have:=ROut.write (y':=y') J5 h (A0 ..)
 rwa [C0] at this
theorem B1U {l:List A2q} (h:l.length=0):P6 l=[⟨⟨[],[]⟩,2⟩]:=if_pos h
theorem B1V {l:List A2q} (h:l.length≠0):P6 l=(l.take 3).map Z6:=if_neg h
theorem C6T {l:List A2q} {i:Nat} (hi:i<min l.length 3):((l.take 3).map Z6).getD i default=Z6 (l.getD i default):=by
 rw [D6D,D7C,D6S (by omega),D6K (by omega),D6D,D6K (by omega)];rfl
set_option maxHeartbeats 80000000 in
theorem B6J (p:B1) (id:Int) (st:St):S P 156 [B7 p,eI id] st fun v st'=>v=B7 (A2d p id)∧st'=st:=by
 refine S.post (post:=fun v s=>(∃ W,v=.agg W∧F1 st s∧F0 W (cellsOf (B7 (A2d p id))))∨∃ (pre:List AV) (sv fin:AV) (base:St),v=.agg (pre++[sv,fin])∧A6 [sv] s [A8 3 W6 (P6 p.parts)] base∧F1 st base∧F0 (pre++[A8 3 W6 (P6 p.parts),fin]) (cellsOf (B7 (A2d p id)))) ?_ (fun v s h=>⟨_,st,⟨rfl,rfl⟩,by
   rcases h with ⟨W,h1,h3,h4⟩ | ⟨pre,sv,fin,base,h1,h2,h3,h4⟩
   ·rw [h1];exact (Le.shift (Le.agg h4) _).trans (h3.shift _)
   ·rw [h1]
    refine (A6.agg (A6.pre (A6.cons h2 (A6.keep [fin] _)) pre)).trans ?_
    exact (Le.shift (Le.agg h4) _).trans (h3.shift _)⟩)
 have hScope:=fun s=>B6P p.scope s
 obtain ⟨SC,hSC⟩:∃ SC,SC=Q5 p.scope:=⟨_,rfl⟩
 rw [←hSC] at hScope
 have hId:=fun s=>D3Z id s
 obtain ⟨I,hI⟩:∃ I,I=idN id:=⟨_,rfl⟩
 rw [←hI] at hId
 have hPr:=fun s=>A0f p.prio 5 (by decide) (by decide) s
 obtain ⟨PR,hPR⟩:∃ PR,PR=B5 p.prio 5:=⟨_,rfl⟩
 rw [←hPR] at hPr
 have hKd:=fun s=>A0f (IntKind.i64.wrap (p.kind - 1)) 7 (by decide) (by decide) s
 have hkm:=C9 (IntKind.i64.wrap (p.kind - 1)) (n:=7) (by decide)
 have hkw:IntKind.i64.wrap (1+B5 (IntKind.i64.wrap (p.kind - 1)) 7)=A3A p:=A5 (by omega) (by omega)
 have hK:=A6q p
 have hP:A2d p id=P5 p id (A3A p):=rfl
 rw [hP]
 generalize A3A p=K at hK hkw ⊢
 clear hP
 generalize B5 (IntKind.i64.wrap (p.kind - 1)) 7=KD at hKd hkw
 obtain ⟨G,hG⟩:∃ G,G=A2c p:=⟨_,rfl⟩
 obtain ⟨C,hC⟩:∃ C,C=A3z p:=⟨_,rfl⟩
 obtain ⟨L,hL⟩:∃ L,L=A3j p:=⟨_,rfl⟩
 have wr:IntKind.i64.wrap (1+B5 p.rate 10000)=1+B5 p.rate 10000:=by have:=C9 p.rate (n:=10000) (by decide);exact A5 (by omega) (by omega)
 have wa:IntKind.i64.wrap (1+B5 p.amount 900)=1+B5 p.amount 900:=by have:=C9 p.amount (n:=900) (by decide);exact A5 (by omega) (by omega)
 have wb:IntKind.i64.wrap (1+B5 p.buy 3)=1+B5 p.buy 3:=by have:=C9 p.buy (n:=3) (by decide);exact A5 (by omega) (by omega)
 have wg:IntKind.i64.wrap (1+B5 p.get 2)=1+B5 p.get 2:=by have:=C9 p.get (n:=2) (by decide);exact A5 (by omega) (by omega)
 have hT5:=fun s=>B0g p.tiers 5000 (by decide) (by decide) s
 obtain ⟨TS,hTS⟩:∃ TS,TS=P7 p.tiers 5000:=⟨_,rfl⟩
 rw [←hTS] at hT5
 have hT6:=fun s=>B0g p.tiers 5 (by decide) (by decide) s
 obtain ⟨TU,hTU⟩:∃ TU,TU=P7 p.tiers 5:=⟨_,rfl⟩
 rw [←hTU] at hT6
 have hA3:=fun s=>P4 p.amount 3000 (by decide) (by decide) s
 obtain ⟨A3,hA⟩:∃ A3,A3=B5 p.amount 3000:=⟨_,rfl⟩
 rw [←hA] at hA3
 refine F4 [2] Tryz.func156 ?_
 intro b4 hb4;conv=>whnf
 refine ⟨[16,17],[1,3,5,8,9,11,13,14],List.range 18,by kernel_rfl,?_⟩;conv=>whnf
 refine ⟨_,fun s _=>H8 (hId s),?_⟩;conv=>whnf
 refine ⟨_,fun s _=>⟨rfl,rfl⟩,?_⟩;conv=>whnf
 refine ⟨_,fun s _=>H8 (hKd s),?_⟩;conv=>whnf
 refine ⟨_,fun s _=>⟨rfl,rfl⟩,?_⟩;conv=>whnf
 refine ⟨_,fun s _=>H8 (hPr s),?_⟩;conv=>whnf
 refine ⟨_,fun s _=>⟨rfl,rfl⟩,?_⟩;conv=>whnf
 refine ⟨_,fun s _=>⟨rfl,rfl⟩,?_⟩;conv=>whnf
 refine ⟨_,fun s _=>H8 (hScope s),?_⟩;conv=>whnf
 intro b5 hb5
 have hne:b4≠b5:=fun e=>by subst e;rw [A0] at hb5;cases hb5
 conv=>whnf
 refine stU (A0 ..) rfl ?_
 rw [C0,hkw]
 have hst:∀ Y:K4,F1 st (upd (upd st b4 ⟨206,15,1,fun _=>H7 B8P.zero⟩) b5 Y):=fun Y=>((F1.refl st).upd hb4).upd hb5
 conv=>whnf
 refine I2 (B1T _ _) ?_
 refine I2 (A0f _ 3 (by decide) (by decide) _) ?_
 cases hg:(B5 (A2Q p.group) 3==1)
 case' true =>
  have hgv:(⟨#[103]⟩:C8)++B2B ([]++[IntKind.u8.wrap (48+IntKind.u8.wrap (B5 p.group.size 2))])=G:=by rw [hG,B2L];exact (if_pos (by simpa using hg)).symm
  conv=>whnf
  refine I2 (A0f _ 2 (by decide) (by decide) _) ?_
  rw [hgv]
  refine stU (A0 ..) (A4 ..) ?_
  rw [C0]
 case' false =>
  have hG0:(⟨#[]⟩:C8)=G:=by rw [hG];exact (if_neg (by simpa using hg)).symm
 all_goals
  conv=>whnf
  refine I2 (B1T _ _) ?_
  refine I2 (A0f _ 3 (by decide) (by decide) _) ?_
  cases hcd:(B5 (A2Q p.code) 3==1)
  case' true =>
   have hcv:A5A p.code.size=C:=by rw [hC];exact (if_pos (by simpa using hcd)).symm
   conv=>whnf
   refine I2 (C3t _ _) ?_
   rw [hcv]
   refine stU (A0 ..) (A4 ..) ?_
   rw [C0]
  case' false =>
   have hC0:(⟨#[]⟩:C8)=C:=by rw [hC];exact (if_neg (by simpa using hcd)).symm
  all_goals
   conv=>whnf
   refine I2 (P4 _ 3 (by decide) (by decide) _) ?_
   cases hl:(B5 p.least 3==1)
   case' true =>
    have hlv:B5 p.least 9000=L:=by rw [hL];exact (if_pos (by simpa using hl)).symm
    conv=>whnf
    refine I2 (P4 _ 9000 (by decide) (by decide) _) ?_
    rw [hlv]
    refine stU (A0 ..) (A4 ..) ?_
    rw [C0]
   case' false =>
    have hL0:(0:Int)=L:=by rw [hL];exact (if_neg (by simpa using hl)).symm
   all_goals
    conv=>whnf
    refine ldV (A0 ..) rfl (by omega) (A4 ..) ?_
    rcases (show K=1∨K=2∨K=3∨K=4∨K=5∨K=6∨K=7 by omega) with rfl | rfl | rfl | rfl | rfl | rfl | rfl
    ·rw [show cellsOf (B7 (P5 p id 1))=[eS (I),eI 1,eI (PR),eS (G),eS (C),eB p.closes,C7 (SC).skus,C7 (SC).cats,eI (L),eI (1+B5 p.rate 10000),eI 0,eI 0,eI 0,A8 3 W6 [],A8 3 R9 []] from by rw [hI,hPR,hG,hC,hL,hSC];rfl]
     (try subst hG0);(try subst hC0);(try subst hL0)
     conv=>whnf
     refine I2 (P4 _ 10000 (by decide) (by decide) _) ?_
     rw [wr]
     refine stU (A0 ..) (A4 ..) ?_
     rw [C0];conv=>whnf
     refine J6 (A0 ..) (A4 ..) ?_
     refine Z7 (by rw [A9 hne];exact A0 ..) rfl ?_
     refine J6 (A0 ..) (A4 ..) ?_
     exact .inl ⟨_,rfl,(hst _).over hb4,F0.cons (Le.refl _) (F0.cons (Le.refl _) (F0.cons (Le.refl _) (F0.cons (Le.refl _) (F0.cons (Le.refl _) (F0.cons (Le.refl _) (F0.cons (Le.refl _) (F0.cons (Le.refl _) (F0.cons (Le.refl _) (F0.cons (Le.refl _) (F0.cons (Le.refl _) (F0.cons (Le.refl _) (F0.cons (Le.refl _) (F0.cons (Le.emp _ _) (F0.cons (Le.emp _ _) (F0.nil)))))))))))))))⟩
    ·rw [show cellsOf (B7 (P5 p id 2))=[eS (I),eI 2,eI (PR),eS (G),eS (C),eB p.closes,C7 (SC).skus,C7 (SC).cats,eI (L),eI 0,eI (1+B5 p.amount 900),eI 0,eI 0,A8 3 W6 [],A8 3 R9 []] from by rw [hI,hPR,hG,hC,hL,hSC];rfl]
     (try subst hG0);(try subst hC0);(try subst hL0)
     conv=>whnf
     refine I2 (P4 _ 900 (by decide) (by decide) _) ?_
     rw [wa]
     refine stU (A0 ..) (A4 ..) ?_
     rw [C0];conv=>whnf
     refine J6 (A0 ..) (A4 ..) ?_
     refine Z7 (by rw [A9 hne];exact A0 ..) rfl ?_
     refine J6 (A0 ..) (A4 ..) ?_
     exact .inl ⟨_,rfl,(hst _).over hb4,F0.cons (Le.refl _) (F0.cons (Le.refl _) (F0.cons (Le.refl _) (F0.cons (Le.refl _) (F0.cons (Le.refl _) (F0.cons (Le.refl _) (F0.cons (Le.refl _) (F0.cons (Le.refl _) (F0.cons (Le.refl _) (F0.cons (Le.refl _) (F0.cons (Le.refl _) (F0.cons (Le.refl _) (F0.cons (Le.refl _) (F0.cons (Le.emp _ _) (F0.cons (Le.emp _ _) (F0.nil)))))))))))))))⟩
    ·rw [show cellsOf (B7 (P5 p id 3))=[eS (I),eI 3,eI (PR),eS (G),eS (C),eB p.closes,C7 (SC).skus,C7 (SC).cats,eI (L),eI (1+B5 p.rate 10000),eI 0,eI (1+B5 p.buy 3),eI (1+B5 p.get 2),A8 3 W6 [],A8 3 R9 []] from by rw [hI,hPR,hG,hC,hL,hSC];rfl]
     (try subst hG0);(try subst hC0);(try subst hL0)
     conv=>whnf
     refine ⟨[13,15,17],[],List.range 18,by kernel_rfl,?_⟩;conv=>whnf
     refine cqW (P4 _ 10000 (by decide) (by decide) _) ?_
     rw [wr]
     refine cqW (A0f _ 3 (by decide) (by decide) _) ?_
     rw [wb]
     refine cqW (A0f _ 2 (by decide) (by decide) _) ?_
     rw [wg]
     refine stU (A0 ..) (A4 ..) ?_
     rw [C0];conv=>whnf
     refine stU (A0 ..) (A4 ..) ?_
     rw [C0];conv=>whnf
     refine stU (A0 ..) (A4 ..) ?_
     rw [C0];conv=>whnf
     refine J6 (A0 ..) (A4 ..) ?_
     refine Z7 (by rw [A9 hne];exact A0 ..) rfl ?_
     refine J6 (A0 ..) (A4 ..) ?_
     exact .inl ⟨_,rfl,(hst _).over hb4,F0.cons (Le.refl _) (F0.cons (Le.refl _) (F0.cons (Le.refl _) (F0.cons (Le.refl _) (F0.cons (Le.refl _) (F0.cons (Le.refl _) (F0.cons (Le.refl _) (F0.cons (Le.refl _) (F0.cons (Le.refl _) (F0.cons (Le.refl _) (F0.cons (Le.refl _) (F0.cons (Le.refl _) (F0.cons (Le.refl _) (F0.cons (Le.emp _ _) (F0.cons (Le.emp _ _) (F0.nil)))))))))))))))⟩
    ·rw [show cellsOf (B7 (P5 p id 4))=[eS (I),eI 4,eI (PR),eS (G),eS (C),eB p.closes,C7 [],C7 [],eI (L),eI 0,eI (A3),eI 0,eI 0,A8 3 W6 (P6 p.parts),A8 3 R9 []] from by rw [hI,hPR,hG,hC,hL,hA];rfl];conv=>whnf
     refine I2 (hA3 _) ?_
     refine stU (A0 ..) (A4 ..) ?_
     rw [C0];conv=>whnf
     refine stU (A0 ..) (A4 ..) ?_
     rw [C0];conv=>whnf
     refine lp (min p.parts.length 3) [2,4,5,6] (fun i vs s=>∃ sv f,vs=[.fptr (B7 p) 0,.optr 15 b4 0 0,.optr 15 b5 0 0,eI i]∧f 0=.agg ([eS I,eI 4,eI PR,eS G,eS C,eB p.closes,.emp,.emp,eI L,eI 0,eI A3,eI 0,eI 0]++[sv,.emp])∧ROut F1 259 3 (B4E ((p.parts.take 3).map Z6)) i (upd (upd st b4 ⟨206,15,1,fun _=>H7 B8P.zero⟩) b5 ⟨206,15,1,f⟩) sv s) ?_ ?_
     ·conv=>whnf
      exact ⟨.emp,_,rfl,by (try rw [←hG0]);(try rw [←hC0]);(try rw [←hL0]);first | rfl | (rw [A4];rfl),ROut.start (F1.refl _) _ _ _⟩
     ·rintro i vs s hi ⟨sv,f,rfl,hf,hR⟩
      have hsup:=ROut.sup J5 hR
      have at5:s b5=some ⟨206,15,1,f⟩:=hsup b5 _ (A0 ..)
      have at4:s b4=some ⟨206,15,1,fun _=>H7 B8P.zero⟩:=hsup b4 _ (by rw [A9 hne];exact A0 ..)
      have n5:st b5=none:=by rw [A9 (Ne.symm hne)] at hb5;exact hb5
      conv=>whnf
      refine B9 (fun h1=>?_) (fun h1=>?_)<;>rw [h1]<;>simp only [D6F,D6E] at h1
      case' refine_1 =>
       conv=>whnf
       refine B9 (fun h2=>?_) (fun h2=>?_)<;>rw [h2]<;>simp only [D6F,D6E] at h2
      case refine_1.refine_1 =>
       have hi':i<min p.parts.length 3:=by omega
       have hsc2:=fun s=>B6P (p.parts.getD (i:Int).toNat default).scope s
       have hpa:=C6T hi'
       have hm2:=C9 (p.parts.getD (i:Int).toNat default).count (n:=2) (by decide)
       have wc:IntKind.i64.wrap (1+B5 (p.parts.getD (i:Int).toNat default).count 2)=1+B5 (p.parts.getD (i:Int).toNat default).count 2:=A5 (by omega) (by omega)
       have hpp:W6 (Z6 (p.parts.getD i default))=.agg [C7 (Q5 (p.parts.getD (i:Int).toNat default).scope).skus,C7 (Q5 (p.parts.getD (i:Int).toNat default).scope).cats,eI (1+B5 (p.parts.getD (i:Int).toNat default).count 2)]:=rfl
       generalize Q5 (p.parts.getD (i:Int).toNat default).scope=S2 at hsc2 hpp
       rcases ROut.head hR with rfl | ⟨bp,rfl⟩
       all_goals
        conv=>whnf
        refine ⟨[19,21],[15],List.range 22,by kernel_rfl,?_⟩;conv=>whnf
        refine J6 at5 hf ?_
        refine E7 ?_
        refine cqW (hsc2 _) ?_
        refine E7 ?_
        refine ⟨_,fun s _=>H8 (A0f _ 2 (by decide) (by decide) s),?_⟩;conv=>whnf
        rw [wc]
        refine ⟨_,⟨rfl,rfl⟩,?_⟩;conv=>whnf
        refine ROut.app (q:=C9d) J5 rfl rfl rfl rfl rfl (f:=B4E ((p.parts.take 3).map Z6)) (by show _=W6 _;rw [hpa,hpp];rfl) (by show (i+1) * 56≤140737488355328;omega) hR (fun sv' t2 hR2=>?_)
        have at5':t2 b5=some ⟨206,15,1,f⟩:=ROut.sup J5 hR2 b5 _ (A0 ..)
        rcases ROut.head hR2 with rfl | ⟨bp',rfl⟩
        all_goals
         conv=>whnf
         refine Z7 at5' hf ?_
         refine G2 ?_
         exact nx hi' ⟨_,_,by rw [B4 (by omega)],(by rw [A4];rfl),ROut.put hR2 _⟩
      all_goals
       have hie:i=min p.parts.length 3:=by omega
       obtain ⟨s0,hcol,hss⟩:=hR
       rcases hcol with ⟨h0,rfl,rfl⟩ | ⟨h0,bp,g,hbp,rfl,rfl,hgg⟩
       ·have hPP:=B1U (l:=p.parts) (by omega)
        subst h0
        rw [hPP];conv=>whnf
        refine J6 at5 hf ?_
        refine Z7 at5 hf ?_
        refine J6 (A0 ..) (A4 ..) ?_
        refine Z7 (by rw [A9 hne];exact at4) rfl ?_
        refine J6 (A0 ..) (A4 ..) ?_
        exact .inl ⟨_,rfl,((((F1.refl st).upd hb4).upd hb5).trans hss |>.over n5).over hb4,F0.cons (Le.refl _) (F0.cons (Le.refl _) (F0.cons (Le.refl _) (F0.cons (Le.refl _) (F0.cons (Le.refl _) (F0.cons (Le.refl _) (F0.cons (Le.emp _ _) (F0.cons (Le.emp _ _) (F0.cons (Le.refl _) (F0.cons (Le.refl _) (F0.cons (Le.refl _) (F0.cons (Le.refl _) (F0.cons (Le.refl _) (F0.cons (Le.arr1 (F0.cons (Le.emp _ _) (F0.cons (Le.emp _ _) (F0.cons (Le.refl _) F0.nil))) rfl) (F0.cons (Le.emp _ _) (F0.nil)))))))))))))))⟩
       ·have hPP:=B1V (l:=p.parts) (by omega)
        have hAP:A8 3 W6 (P6 p.parts)=.arr 3 i (B4E ((p.parts.take 3).map Z6)):=by unfold A8;rw [hPP,show ((p.parts.take 3).map Z6).length=i by rw [D6J,D6N];omega]
        have hR3:ROut F1 259 3 (B4E ((p.parts.take 3).map Z6)) i (upd (upd st b4 ⟨206,15,1,fun _=>H7 B8P.zero⟩) b5 ⟨206,15,1,f⟩) (.own 3 bp 0 i) s:=⟨_,.inr ⟨h0,bp,g,hbp,rfl,rfl,hgg⟩,hss⟩
        conv=>whnf
        refine J6 at5 hf ?_
        rw [show ((i:Int)==0)=false by rw [D7p];omega];conv=>whnf
        refine J6 at5 hf ?_
        refine Z7 at4 rfl ?_
        refine J6 (A0 ..) (A4 ..) ?_
        obtain ⟨base,hsh,hsb⟩:=ROut.shift J5 (ROut.write J5 hR3 (b:=b4) (by rw [A9 hne];exact A0 ..))
        refine .inr ⟨[eS I,eI 4,eI PR,eS G,eS C,eB p.closes,.emp,.emp,eI L,eI 0,eI A3,eI 0,eI 0],.own 3 bp 0 i,.emp,base,rfl,by rw [hAP];exact hsh,((((F1.refl st).upd hb4).upd hb5).over hb4).trans hsb,F0.cons (Le.refl _) (F0.cons (Le.refl _) (F0.cons (Le.refl _) (F0.cons (Le.refl _) (F0.cons (Le.refl _) (F0.cons (Le.refl _) (F0.cons (Le.emp _ _) (F0.cons (Le.emp _ _) (F0.cons (Le.refl _) (F0.cons (Le.refl _) (F0.cons (Le.refl _) (F0.cons (Le.refl _) (F0.cons (Le.refl _) (F0.cons (Le.refl _) (F0.cons (Le.emp _ _) (F0.nil)))))))))))))))⟩
    ·rw [show cellsOf (B7 (P5 p id 5))=[eS (I),eI 5,eI (PR),eS (G),eS (C),eB p.closes,C7 (SC).skus,C7 (SC).cats,eI (L),eI 0,eI 0,eI 0,eI 0,A8 3 W6 [],A8 3 R9 (TS)] from by rw [hI,hPR,hG,hC,hL,hSC,hTS];rfl]
     (try subst hG0);(try subst hC0);(try subst hL0)
     conv=>whnf
     refine I2 (hT5 _) ?_
     refine stU (A0 ..) (A4 ..) ?_
     rw [C0];conv=>whnf
     refine J6 (A0 ..) (A4 ..) ?_
     refine Z7 (by rw [A9 hne];exact A0 ..) rfl ?_
     refine J6 (A0 ..) (A4 ..) ?_
     exact .inl ⟨_,rfl,(hst _).over hb4,F0.cons (Le.refl _) (F0.cons (Le.refl _) (F0.cons (Le.refl _) (F0.cons (Le.refl _) (F0.cons (Le.refl _) (F0.cons (Le.refl _) (F0.cons (Le.refl _) (F0.cons (Le.refl _) (F0.cons (Le.refl _) (F0.cons (Le.refl _) (F0.cons (Le.refl _) (F0.cons (Le.refl _) (F0.cons (Le.refl _) (F0.cons (Le.emp _ _) (F0.cons (Le.refl _) (F0.nil)))))))))))))))⟩
    ·rw [show cellsOf (B7 (P5 p id 6))=[eS (I),eI 6,eI (PR),eS (G),eS (C),eB p.closes,C7 (SC).skus,C7 (SC).cats,eI (L),eI 0,eI 0,eI 0,eI 0,A8 3 W6 [],A8 3 R9 (TU)] from by rw [hI,hPR,hG,hC,hL,hSC,hTU];rfl]
     (try subst hG0);(try subst hC0);(try subst hL0)
     conv=>whnf
     refine I2 (hT6 _) ?_
     refine stU (A0 ..) (A4 ..) ?_
     rw [C0];conv=>whnf
     refine J6 (A0 ..) (A4 ..) ?_
     refine Z7 (by rw [A9 hne];exact A0 ..) rfl ?_
     refine J6 (A0 ..) (A4 ..) ?_
     exact .inl ⟨_,rfl,(hst _).over hb4,F0.cons (Le.refl _) (F0.cons (Le.refl _) (F0.cons (Le.refl _) (F0.cons (Le.refl _) (F0.cons (Le.refl _) (F0.cons (Le.refl _) (F0.cons (Le.refl _) (F0.cons (Le.refl _) (F0.cons (Le.refl _) (F0.cons (Le.refl _) (F0.cons (Le.refl _) (F0.cons (Le.refl _) (F0.cons (Le.refl _) (F0.cons (Le.emp _ _) (F0.cons (Le.refl _) (F0.nil)))))))))))))))⟩
    ·rw [show cellsOf (B7 (P5 p id 7))=[eS (I),eI 7,eI (PR),eS (G),eS (C),eB false,C7 [],C7 [],eI (L),eI (1+B5 p.rate 10000),eI 0,eI 0,eI 0,A8 3 W6 [],A8 3 R9 []] from by rw [hI,hPR,hG,hC,hL];rfl]
     (try subst hG0);(try subst hC0);(try subst hL0)
     conv=>whnf
     refine I2 (P4 _ 10000 (by decide) (by decide) _) ?_
     rw [wr]
     refine stU (A0 ..) (A4 ..) ?_
     rw [C0];conv=>whnf
     refine stU (A0 ..) (A4 ..) ?_
     rw [C0];conv=>whnf
     refine stU (A0 ..) (A4 ..) ?_
     rw [C0];conv=>whnf
     refine J6 (A0 ..) (A4 ..) ?_
     refine Z7 (by rw [A9 hne];exact A0 ..) rfl ?_
     refine J6 (A0 ..) (A4 ..) ?_
     exact .inl ⟨_,rfl,(hst _).over hb4,F0.cons (Le.refl _) (F0.cons (Le.refl _) (F0.cons (Le.refl _) (F0.cons (Le.refl _) (F0.cons (Le.refl _) (F0.cons (Le.refl _) (F0.cons (Le.emp _ _) (F0.cons (Le.emp _ _) (F0.cons (Le.refl _) (F0.cons (Le.refl _) (F0.cons (Le.refl _) (F0.cons (Le.refl _) (F0.cons (Le.refl _) (F0.cons (Le.emp _ _) (F0.cons (Le.emp _ _) (F0.nil)))))))))))))))⟩
theorem C6w (i:Nat) (h:i<6):Int.tmod (IntKind.i64.wrap (IntKind.i64.wrap ((i:Int) * 7)+3)) 10=C1g i:=by
 rw [A5 (x:=(i:Int) * 7) (by omega) (by omega),A5 (by omega) (by omega),D8q (by omega)];rfl
theorem B4Y (l:List B1) (st:St):S P 101 [A8 15 B7 l] st fun v st'=>v=A8 15 B7 (N3 l)∧st'=st:=by
 refine A0L (ty:=206) ?_
 have hat:∀ i,i<6→Y5 l i=A2d (l.getD (i:Int).toNat default) (Int.tmod (IntKind.i64.wrap (IntKind.i64.wrap ((i:Int) * 7)+3)) 10):=fun i hi=>by rw [C6w i hi];rfl
 have hPl:N3 l=(List.range (min l.length 6)).map (Y5 l):=rfl
 rw [hPl]
 have hnext:=A6i (Y5 l)
 have hS:=fun i=>B6J (l.getD (i:Nat) default)
 generalize Y5 l=F at hat hnext ⊢
 refine F4 [] Tryz.func101 ?_
 refine lp (min l.length 6) [0,3,4] (fun i vs s=>∃ sv,vs=[A8 15 B7 l,sv,eI i]∧E6 206 15 B7 ((List.range i).map F) st sv s) ?_ ?_
 ·conv=>whnf
  exact ⟨.emp,rfl,E6.start _ _ _ _⟩
 ·rintro i vs s hi ⟨sv,rfl,hc⟩
  have hfin:i=min l.length 6→E6 206 15 B7 ((List.range (min l.length 6)).map F) st sv s:=fun e=>by rw [←e];exact hc
  have hlen:((List.range i).map F).length=i:=by rw [D6J,D7g]
  conv=>whnf
  refine B9 (fun h1=>?_) (fun h1=>?_)<;>rw [h1]<;>simp only [D6F,D6E] at h1
  ·conv=>whnf
   refine B9 (fun h2=>?_) (fun h2=>?_)<;>rw [h2]<;>simp only [D6F,D6E] at h2
   ·have hi':i<min l.length 6:=by omega
    have hF:=hat i (by omega)
    conv=>whnf
    refine E7 ?_
    refine B3 (hS (i:Int).toNat _ _) ?_
    generalize hid:Int.tmod (IntKind.i64.wrap (IntKind.i64.wrap ((i:Int) * 7)+3)) 10=ID at hF
    generalize A2d (l.getD (i:Int).toNat default) ID=Y at hF
    conv=>whnf
    refine E6.app (y:=Y) (q:=B8P) rfl rfl rfl rfl rfl (by rfl) (by rw [hlen];show (i+1) * 208≤140737488355328;omega) hc (fun sv' t' hc'=>?_);conv=>whnf
    refine G2 ?_
    refine nx hi' ⟨sv',by rw [B4 (by omega)],?_⟩
    rw [hnext,hF];exact hc'
   ·conv=>whnf
    exact hfin (by omega)
  ·conv=>whnf
   exact hfin (by omega)
abbrev A7H (l:List G8):Nat→AV:=fun i=>A0U (l.getD i default)
def A2E (zs:Nat→List G8) (sv:Nat→AV):Nat→St→St→Prop
 | 0=>F1
 | k+1=>fun s t=>ROut (A2E zs sv k) 209 2 (A7H (zs k)) (zs k).length s (sv k) t
theorem A2s (zs:Nat→List G8) (sv:Nat→AV):∀ k,L2 (A2E zs sv k)
 | 0=>J5
 | k+1=>U9 (A2s zs sv k) _ _ _ _ _
theorem A9X {zs zs':Nat→List G8} {sv sv':Nat→AV}:∀ (k:Nat) {s t:St},(∀ j,j<k→zs j=zs' j∧sv j=sv' j)→A2E zs sv k s t→A2E zs' sv' k s t
 | 0,s,t,_,h=>h
 | k+1,s,t,he,h=>by
  obtain ⟨s0,h1,h2⟩:=h
  obtain ⟨e1,e2⟩:=he k (D9w k)
  rw [e1,e2] at h1
  exact ⟨s0,h1,A9X k (fun j hj=>he j (Nat.lt_succ_of_lt hj)) h2⟩
theorem A8u {bz n ty:Nat} {zs:Nat→List G8} {sv:Nat→AV} {nm:Nat→C8} {r1 r2:Nat→Int}:∀ (k:Nat) (s t:St) (g:Nat→AV),k≤n→A2E zs sv k s t→s bz=some ⟨ty,4,n,g⟩→(∀ j,j<k→g j=.agg [eS (nm j),sv j,eI (r1 j),eI (r2 j)]) →
  ∃ t' g',(∀ vs,A6 vs t vs t')∧F1 (upd s bz ⟨ty,4,n,g'⟩) t'∧(∀ j,j<k→g' j=.agg [eS (nm j),A8 2 A0U (zs j),eI (r1 j),eI (r2 j)])∧∀ j,k≤j→g' j=g j
 | 0,s,t,g,hk,h,hs,hg=>by
  refine ⟨t,g,fun vs=>A6.refl _ _,fun b x hb=>?_,fun j hj=>absurd hj (by omega),fun j _=>rfl⟩
  by_cases e:b=bz
  ·subst e;rw [A0] at hb;cases hb;exact h _ _ hs
  ·rw [A9 e] at hb;exact h _ _ hb
 | k+1,s,t,g,hk,h,hs,hg=>by
  have hB:=A2s zs sv k
  have ht:t bz=some ⟨ty,4,n,g⟩:=(A2s zs sv (k+1)).sup h _ _ hs
  obtain ⟨t1,hsh,hc⟩:=ROut.shift hB h
  have ht1:t1 bz=some ⟨ty,4,n,g⟩:=hB.sup hc _ _ hs
  have hcell:=fun vs=>A6.cell (vs:=vs) (pre:=[eS (nm k)]) (post:=[eI (r1 k),eI (r2 k)]) hsh ht ht1 (show k<n by omega) (hg k (by omega)) rfl
  have hc':=hB.write (y':=⟨ty,4,n,I4 g k (.agg ([eS (nm k)]++AV.arr 2 (zs k).length (A7H (zs k))::[eI (r1 k),eI (r2 k)]))⟩) hc hs
  obtain ⟨t',g',k1,k2,k3,k4⟩:=A8u (nm:=nm) (r1:=r1) (r2:=r2) k _ _ _ (by omega) hc' (A0 ..) (fun j hj=>by rw [H4 (by omega)];exact hg j (by omega))
  rw [C0] at k2
  refine ⟨t',g',fun vs=>(hcell vs).trans (k1 vs),k2,fun j hj=>?_,fun j hj=>?_⟩
  ·by_cases e:j=k
   ·subst e;rw [k4 j (D6M _),A4];rfl
   ·exact k3 j (by omega)
  ·rw [k4 j (by omega),H4 (by omega)]
theorem C5D (k:Nat) (h:k<3):(⟨#[122]⟩:C8)++B2B ([]++[IntKind.u8.wrap (48+IntKind.u8.wrap (k:Int))])=Q3 k:=by rw [B2L];rfl
theorem B6L {l:List K3} {k:Nat} (h:k<l.length):D7 l k=⟨Q3 k,T3 (l.getD k default).rates,B5 (l.getD k default).rest 3000,B5 (l.getD k default).ship 3000⟩:=if_pos h
theorem B4Z {l:List K3} {k:Nat} (h:¬ k<l.length):D7 l k=⟨Q3 k,[],1000 * k,500 * k⟩:=if_neg h
theorem C7h {l:List G8} {c:Nat} (hc:c<min 3 l.length):(T3 l).getD c default=A8K l c:=by
 unfold T3
 rw [D6D,D7C,D8i hc];rfl
abbrev B2S (z:K3) (rv:AV):AV:=.agg [eS z.name,rv,eI z.rest,eI z.ship]
def ZO (t:Tax) (k:Nat) (base:St) (zv:AV) (s:St):Prop :=
 ∃ (sv g:Nat→AV),ROut (A2E (fun j=>(D7 t.zones j).rates) sv k) 103 4 g k base zv s∧∀ j,j<k→g j=B2S (D7 t.zones j) (sv j)
theorem ZO.end {t:Tax} {base s:St} {zv:AV} (h:ZO t 3 base zv s):∃ t',A6 [zv] s [A8 4 S3 (L1 t).zones] t'∧F1 base t':=by
 obtain ⟨sv,g,⟨s1,hcol,hch⟩,hg⟩:=h
 rcases hcol with ⟨h0,_,_⟩ | ⟨h0,bz,g0,hbz,rfl,rfl,hgg⟩
 ·cases h0
 obtain ⟨t',g',hsh,hsup,hg',_⟩:=A8u (nm:=fun j=>(D7 t.zones j).name) (r1:=fun j=>(D7 t.zones j).rest) (r2:=fun j=>(D7 t.zones j).ship) 3 _ s g0 (D6M _) hch (A0 ..) (fun j hj=>by rw [hgg j hj,hg j hj])
 rw [C0] at hsup
 refine ⟨del t' bz,(hsh _).trans (O4 (hsup bz _ (A0 ..)) rfl (D6M _) fun i hi=>?_),?_⟩
 ·show g' i=S3 ((L1 t).zones.getD i default)
  rw [hg' i hi]
  have:(L1 t).zones.getD i default=D7 t.zones i:=by
   show ((List.range 3).map (D7 t.zones)).getD i default=_
   rw [D6D,D7C,D8i hi];rfl
  rw [this];rfl
 ·exact F1.del (((F1.refl base).upd hbz).trans hsup) hbz
theorem ZO.next {t:Tax} {k:Nat} {base s1 s:St} {zv rv:AV} {sv g:Nat→AV} (hcol:Col 103 4 g base k zv s1) (hR:ROut (A2E (fun j=>(D7 t.zones j).rates) sv k) 209 2 (A7H (D7 t.zones k).rates) (D7 t.zones k).rates.length s1 rv s) (hg:∀ j,j<k→g j=B2S (D7 t.zones j) (sv j)) :
  ∃ sv' g',ROut (A2E (fun j=>(D7 t.zones j).rates) sv' (k+1)) 103 4 g' k base zv s∧sv' k=rv∧(∀ j,j<k+1→g' j=B2S (D7 t.zones j) (sv' j)):=by
 have hsv:∀ j,j<k→sv j=(fun j=>if j=k then rv else sv j) j:=fun j hj=>by simp only;rw [if_neg (by omega)]
 refine ⟨fun j=>if j=k then rv else sv j,fun j=>B2S (D7 t.zones j) (if j=k then rv else sv j),⟨s1,Col.congr hcol fun j hj=>by rw [hg j hj];show B2S _ _=B2S _ (if j=k then rv else sv j);rw [if_neg (by omega)],?_⟩,by simp,fun j _=>rfl⟩
 obtain ⟨s2,h1,h2⟩:=hR
 refine ⟨s2,?_,A9X k (fun j hj=>⟨rfl,hsv j hj⟩) h2⟩
 simp only [if_true];exact h1
theorem B7p {R:St→St→Prop} {ty e n b:Nat} {fo:Nat→AV} {base s:St} {zv:AV} {y:K4} (h:ROut R ty e fo n (upd base b y) zv (upd s b y)) (ty' e':Nat) (fo':Nat→AV):∃ s1,Col ty e fo (upd base b y) n zv s1∧ROut R ty' e' fo' 0 s1 .emp (upd s b y):=by
 obtain ⟨s1,h1,h2⟩:=h
 exact ⟨s1,h1,ROut.start h2 _ _ _⟩
theorem C7y {R:St→St→Prop} (hR:L2 R) {ty e n b ty' e' m:Nat} {fo fo':Nat→AV} {base s1 t:St} {zv rv:AV} {y:K4} (h1:Col ty e fo (upd base b y) n zv s1) (h2:ROut R ty' e' fo' m s1 rv t) (y':K4) :
  ∃ s1',Col ty e fo (upd base b y') n zv s1'∧ROut R ty' e' fo' m s1' rv (upd t b y'):=by
 have h3:=Col.write (y':=y') h1 (A0 ..)
 rw [C0] at h3
 exact ⟨_,h3,ROut.write hR h2 (h1.sup b _ (A0 ..))⟩
set_option maxHeartbeats 8000000 in
theorem C1F (x:Tax) (st:St):S P 102 [S7 x] st fun v st'=>v=S7 (L1 x)∧st'=st:=by
 have hE:S7 (L1 x)=.agg [eB x.incl,eB x.byOrder,eI (B5 x.round 3),A8 4 S3 (L1 x).zones]:=rfl
 refine S.post (post:=fun v s=>∃ zv base,v=.agg [eB x.incl,eB x.byOrder,eI (B5 x.round 3),zv]∧A6 [zv] s [A8 4 S3 (L1 x).zones] base∧F1 st base) ?_ (fun v s ⟨zv,base,h1,h2,h3⟩=>⟨_,st,⟨hE.symm,rfl⟩,by
  rw [h1]
  exact (A6.agg (A6.cons (A6.keep [eB x.incl] _) (A6.cons (A6.keep [eB x.byOrder] _) (A6.cons (A6.keep [eI (B5 x.round 3)] _) h2)))).trans (h3.shift _)⟩)
 clear hE
 have hRd:=fun s=>A0f x.round 3 (by decide) (by decide) s
 obtain ⟨RD',hRD'⟩:∃ RD',RD'=B5 x.round 3:=⟨_,rfl⟩
 rw [←hRD'] at hRd ⊢
 have hend:=fun base s zv=>ZO.end (t:=x) (base:=base) (s:=s) (zv:=zv)
 have hnext:=fun k base s1 s zv rv sv g=>ZO.next (t:=x) (k:=k) (base:=base) (s1:=s1) (s:=s) (zv:=zv) (rv:=rv) (sv:=sv) (g:=g)
 generalize A8 4 S3 (L1 x).zones=ZS at hend ⊢
 refine F4 [1] Tryz.func102 ?_
 intro b2 hb2;conv=>whnf
 refine ⟨[8,9],[1,3,5,6],List.range 10,by kernel_rfl,?_⟩;conv=>whnf
 refine ⟨_,fun s _=>⟨rfl,rfl⟩,?_⟩;conv=>whnf
 refine ⟨_,fun s _=>⟨rfl,rfl⟩,?_⟩;conv=>whnf
 refine ⟨_,fun s _=>⟨rfl,rfl⟩,?_⟩;conv=>whnf
 refine ⟨_,fun s _=>H8 (hRd s),?_⟩;conv=>whnf
 intro b3 hb3
 have h23:b2≠b3:=fun e=>by subst e;rw [A0] at hb3;cases hb3
 conv=>whnf
 refine stU (A0 ..) rfl ?_
 rw [C0];conv=>whnf
 refine lp 3 [1,2,3,4] (fun k vs s=>∃ zv f,vs=[.fptr (S7 x) 0,.optr 4 b2 0 0,.optr 4 b3 0 0,eI k]∧f 0=.agg [eB x.incl,eB x.byOrder,eI RD',zv]∧ZO x k (upd (upd st b2 ⟨26,4,1,fun _=>H7 r26.zero⟩) b3 ⟨26,4,1,f⟩) zv s) ?_ ?_
 ·conv=>whnf
  exact ⟨.emp,_,rfl,by first | rfl | (rw [A4];rfl),fun _=>.junk,fun _=>.junk,ROut.start (show A2E _ _ 0 _ _ from F1.refl _) _ _ _,fun j hj=>absurd hj (by omega)⟩
 rintro k vs s hk ⟨zv,f,rfl,hf,sv,g,hR,hg⟩
 have hB:=A2s (fun j=>(D7 x.zones j).rates) sv k
 have hsup:=ROut.sup hB hR
 have at3:s b3=some ⟨26,4,1,f⟩:=hsup b3 _ (A0 ..)
 have at2:s b2=some ⟨26,4,1,fun _=>H7 r26.zero⟩:=hsup b2 _ (by rw [A9 h23];exact A0 ..)
 conv=>whnf
 refine B9 (fun h1=>?_) (fun h1=>?_)<;>rw [h1]<;>simp only [D6F,D6E] at h1
 case refine_2 =>
  obtain rfl:k=3:=by omega
  have hz:=ROut.head hR
  obtain ⟨y2,hy2⟩:∃ y2:K4,y2=⟨26,4,1,I4 (fun _=>H7 r26.zero) 0 (.agg [eB x.incl,eB x.byOrder,eI RD',zv])⟩:=⟨_,rfl⟩
  obtain ⟨base,k1,k2⟩:=hend _ _ _ ⟨sv,g,ROut.write hB hR (b:=b2) (y':=y2) (by rw [A9 h23];exact A0 ..),hg⟩
  subst hy2
  rcases hz with rfl | ⟨bz,rfl⟩
  all_goals
   conv=>whnf
   refine J6 at3 hf ?_
   refine Z7 at2 rfl ?_
   refine J6 (A0 ..) (A4 ..) ?_
   exact ⟨_,base,rfl,k1,((((F1.refl st).upd hb2).upd hb3).over hb2).trans k2⟩
 have hk3:k<3:=by omega
 have hzn:=C5D k hk3
 have w1:IntKind.i64.wrap (1000 * (k:Int))=1000 * k:=A5 (by omega) (by omega)
 have w2:IntKind.i64.wrap (500 * (k:Int))=500 * k:=A5 (by omega) (by omega)
 have hname:∀ j,(D7 x.zones j).name=Q3 j:=fun j=>by unfold D7;split<;>rfl
 conv=>whnf
 intro b5 hb5
 have h35:b3≠b5:=fun e=>by subst e;rw [at3] at hb5;cases hb5
 have h25:b2≠b5:=fun e=>by subst e;rw [at2] at hb5;cases hb5
 have hbase5:(upd (upd st b2 ⟨26,4,1,fun _=>H7 r26.zero⟩) b3 ⟨26,4,1,f⟩) b5=none:=hsup.none hb5
 conv=>whnf
 rw [hzn,w1,w2]
 refine stU (A0 ..) rfl ?_
 rw [C0]
 /- the tail: the zone as it then stands is appended -/
 have tail:∀ (s2 s1:St) (rv:AV) (f5:Nat→AV),Col 103 4 g (upd (upd (upd st b2 ⟨26,4,1,fun _=>H7 r26.zero⟩) b3 ⟨26,4,1,f⟩) b5 ⟨103,4,1,f5⟩) k zv s1 →
   ROut (A2E (fun j=>(D7 x.zones j).rates) sv k) 209 2 (A7H (D7 x.zones k).rates) (D7 x.zones k).rates.length s1 rv s2 →
   ∀ (X:AV) (gg:Nat→AV),A0g 4 s2 X=some (1,gg)→gg 0=B2S (D7 x.zones k) rv →
   ∀ (K:KK),(∀ zv' t2,t2 b3=some ⟨26,4,1,f⟩→(zv'=.emp∨∃ b,zv'=.own 4 b 0 (k+1))→(∀ f',ZO x (k+1) (upd (upd st b2 ⟨26,4,1,fun _=>H7 r26.zero⟩) b3 ⟨26,4,1,f'⟩) zv' (upd t2 b3 ⟨26,4,1,f'⟩))→K zv' t2) →
   A5L T 24 zv X s2 K:=by
  intro s2 s1 rv f5 hcol hrt X gg hs hgg K hK
  obtain ⟨sv',g',q1,q2,q3⟩:=hnext _ _ _ _ _ _ _ _ hcol hrt hg
  have hB':=A2s (fun j=>(D7 x.zones j).rates) sv' (k+1)
  refine ROut.app (q:=C1K) (f:=g') hB' rfl rfl rfl rfl hs (by rw [q3 k (D9w k),q2,hgg]) (by show (k+1) * 56≤140737488355328;omega) q1 (fun zv' t2 hR2=>?_)
  have hsup2:=ROut.sup hB' hR2
  have hd:∀ f',ROut (A2E (fun j=>(D7 x.zones j).rates) sv' (k+1)) 103 4 g' (k+1) (upd (upd st b2 ⟨26,4,1,fun _=>H7 r26.zero⟩) b3 ⟨26,4,1,f'⟩) zv' (upd t2 b3 ⟨26,4,1,f'⟩):=fun f'=>by
   have h1:=ROut.write hB' hR2 (b:=b3) (y':=⟨26,4,1,f'⟩) (by rw [A9 h35];exact A0 ..)
   rw [R1 h35.symm,C0] at h1
   refine (U9 hB' _ _ _ _ _).drop h1 ?_
   rw [A9 h35.symm] at hbase5 ⊢;exact hbase5
  exact hK zv' t2 (hsup2 b3 _ (by rw [A9 h35];exact A0 ..)) (ROut.head hR2) fun f'=>⟨sv',g',hd f',q3⟩
 have hbeg:=fun y=>(U9 hB 103 4 g k zv).begin (y:=y) hR hb5
 conv=>whnf
 refine B9 (fun h2=>?_) (fun h2=>?_)<;>rw [h2]<;>simp only [D6F,D6E] at h2
 case refine_2 =>
  have hz:=B4Z (l:=x.zones) (k:=k) (by omega)
  rw [hz] at tail
  rcases ROut.head hR with rfl | ⟨bz,rfl⟩
  all_goals
   conv=>whnf
   refine J6 (by rw [A9 h35];exact at3) hf ?_
   refine J6 (A0 ..) (A4 ..) ?_
   obtain ⟨s1,hcol,hrt⟩:=B7p (hbeg ⟨103,4,1,I4 (fun _=>H7 C1K.zero) 0 (.agg [eS (Q3 k),.emp,eI (1000 * k),eI (500 * k)])⟩) 209 2 (A7H [])
   refine tail _ s1 .emp _ hcol hrt _ _ rfl rfl _ (fun zv' t2 q1 q2 q3=>?_)
   rcases q2 with rfl | ⟨bq,rfl⟩
   all_goals
    conv=>whnf
    refine Z7 q1 hf ?_
    refine G2 ?_
    exact nx hk3 ⟨_,_,by rw [B4 (by omega)],(by rw [A4];rfl),q3 _⟩
 have hz:=B6L (l:=x.zones) (k:=k) (by omega)
 have hrl:=fun c=>C7h (l:=(x.zones.getD (k:Int).toNat default).rates) (c:=c)
 have hrn:(T3 (x.zones.getD (k:Int).toNat default).rates).length=min 3 (x.zones.getD (k:Int).toNat default).rates.length:=by unfold T3;rw [D6J,D7g]
 rw [hz] at tail
 have hM1:=fun s=>P4 (x.zones.getD (k:Int).toNat default).rest 3000 (by decide) (by decide) s
 have hM2:=fun s=>P4 (x.zones.getD (k:Int).toNat default).ship 3000 (by decide) (by decide) s
 have tail':_:=tail
 rw [show x.zones.getD k default=x.zones.getD (k:Int).toNat default from rfl] at tail'
 clear tail
 generalize T3 (x.zones.getD (k:Int).toNat default).rates=RL at tail' hrl hrn
 generalize B5 (x.zones.getD (k:Int).toNat default).rest 3000=M1 at tail' hM1
 generalize B5 (x.zones.getD (k:Int).toNat default).ship 3000=M2 at tail' hM2
 conv=>whnf
 refine ⟨[15,17],[],List.range 18,by kernel_rfl,?_⟩;conv=>whnf
 refine E7 ?_
 refine cqW (hM1 _) ?_
 refine E7 ?_
 refine cqW (hM2 _) ?_
 refine stU (A0 ..) (A4 ..) ?_
 rw [C0];conv=>whnf
 refine stU (A0 ..) (A4 ..) ?_
 rw [C0];conv=>whnf
 refine lp (min 3 (x.zones.getD (k:Int).toNat default).rates.length) [1,2,3,4,5,6] (fun c vs s'=>∃ rv f5,vs=[.fptr (S7 x) 0,.optr 4 b2 0 0,.optr 4 b3 0 0,eI k,.optr 4 b5 0 0,eI c]∧f5 0=.agg [eS (Q3 k),rv,eI M1,eI M2] ∧
   ∃ s1,Col 103 4 g (upd (upd (upd st b2 ⟨26,4,1,fun _=>H7 r26.zero⟩) b3 ⟨26,4,1,f⟩) b5 ⟨103,4,1,f5⟩) k zv s1∧ROut (A2E (fun j=>(D7 x.zones j).rates) sv k) 209 2 (A7H RL) c s1 rv s') ?_ ?_
 ·conv=>whnf
  exact ⟨.emp,_,rfl,by first | rfl | (rw [A4];rfl),B7p (hbeg _) _ _ _⟩
 rintro c vs s' hc ⟨rv,f5,rfl,hf5,s1,hcol,hrt⟩
 have hsup':=ROut.sup hB hrt
 have at5:s' b5=some ⟨103,4,1,f5⟩:=hsup' b5 _ (hcol.sup b5 _ (A0 ..))
 have at3':s' b3=some ⟨26,4,1,f⟩:=hsup' b3 _ (hcol.sup b3 _ (by rw [A9 h35];exact A0 ..))
 conv=>whnf
 refine B9 (fun h3=>?_) (fun h3=>?_)<;>rw [h3]<;>simp only [D6F,D6E] at h3
 case' refine_1 =>
  conv=>whnf
  refine E7 ?_
  refine B9 (fun h4=>?_) (fun h4=>?_)<;>rw [h4]<;>simp only [D6F,D6E] at h4
 case refine_1.refine_1 =>
  have hc':c<min 3 (x.zones.getD (k:Int).toNat default).rates.length:=by omega
  have hra:=hrl c hc'
  rcases ROut.head hrt with rfl | ⟨br,rfl⟩
  all_goals
   conv=>whnf
   refine ⟨[17,19],[14],List.range 20,by kernel_rfl,?_⟩;conv=>whnf
   refine J6 at5 hf5 ?_
   refine cqW (A5b _ _) ?_
   refine E7 ?_
   refine E7 ?_
   refine ⟨_,fun s _=>H8 (P4 _ 3000 (by decide) (by decide) s),?_⟩;conv=>whnf
   refine ⟨_,⟨rfl,rfl⟩,?_⟩;conv=>whnf
   refine ROut.app (q:=C6Z) hB rfl rfl rfl rfl rfl (f:=A7H RL) (by show _=A0U _;rw [hra];rfl) (by show (c+1) * 24≤140737488355328;omega) hrt (fun rv' t2 hrt2=>?_)
   have at5':t2 b5=some ⟨103,4,1,f5⟩:=ROut.sup hB hrt2 b5 _ (hcol.sup b5 _ (A0 ..))
   rcases ROut.head hrt2 with rfl | ⟨br',rfl⟩
   all_goals
    conv=>whnf
    refine Z7 at5' hf5 ?_
    refine G2 ?_
    exact nx hc' ⟨_,_,by rw [B4 (by omega)],(by rw [A4];rfl),C7y hB hcol hrt2 _⟩
 all_goals
  have hce:RL.length=c:=by omega
  rw [←hce] at hrt
  rcases ROut.head hR with rfl | ⟨bz,rfl⟩
  all_goals
   rcases ROut.head hrt with rfl | ⟨br,rfl⟩
   all_goals
    conv=>whnf
    refine J6 at3' hf ?_
    refine J6 at5 hf5 ?_
    refine tail' _ s1 _ _ hcol hrt _ _ rfl rfl _ (fun zv' t2 q1 q2 q3=>?_)
    rcases q2 with rfl | ⟨bq,rfl⟩
    all_goals
     conv=>whnf
     refine Z7 q1 hf ?_
     refine G2 ?_
     exact nx hk3 ⟨_,_,by rw [B4 (by omega)],(by rw [A4];rfl),q3 _⟩
set_option maxHeartbeats 8000000 in
theorem B6K (r:D6) (st:St):S P 44 [F7 r] st fun v st'=>v=F7 (G4 r)∧st'=st:=by
 have hE:F7 (G4 r)=.agg [A8 4 E9 (G3 r.items),A8 15 B7 (N3 r.promos),eB (L1 r.tax).incl,eB (L1 r.tax).byOrder,eI (L1 r.tax).round,A8 4 S3 (L1 r.tax).zones,eI (B5 r.ship.fee 900),eI (B5 r.ship.free 3 * 4000),
  eI (20+B5 r.policy.window 60),eI (B5 r.policy.grace 40),eI (1+B5 r.policy.mode 3),eI (B5 r.policy.restock 3 * B5 r.policy.restock 2500),B0 (O2 r.policy.order),B0 (O2 r.policy.credit)]:=rfl
 rw [hE]
 clear hE
 have h1:=C9 r.ship.fee (n:=900) (by decide)
 have h2:=C9 r.ship.free (n:=3) (by decide)
 have h3:=C9 r.policy.window (n:=60) (by decide)
 have h5:=C9 r.policy.mode (n:=3) (by decide)
 have h6:=C9 r.policy.restock (n:=3) (by decide)
 have h7:=C9 r.policy.restock (n:=2500) (by decide)
 have h8:B5 r.policy.restock 3 * B5 r.policy.restock 2500≤2 * 2499:=D9d (by omega) (by omega) (by omega) (by omega)
 have h9:0≤B5 r.policy.restock 3 * B5 r.policy.restock 2500:=D8d h6.1 h7.1
 have w1:IntKind.i64.wrap (B5 r.ship.free 3 * 4000)=B5 r.ship.free 3 * 4000:=A5 (by omega) (by omega)
 have w2:IntKind.i64.wrap (20+B5 r.policy.window 60)=20+B5 r.policy.window 60:=A5 (by omega) (by omega)
 have w3:IntKind.i64.wrap (1+B5 r.policy.mode 3)=1+B5 r.policy.mode 3:=A5 (by omega) (by omega)
 have w4:IntKind.i64.wrap (B5 r.policy.restock 3 * B5 r.policy.restock 2500)=B5 r.policy.restock 3 * B5 r.policy.restock 2500:=A5 (by omega) (by omega)
 have m1:=fun s=>P4 r.ship.fee 900 (by decide) (by decide) s
 have m2:=fun s=>P4 r.ship.free 3 (by decide) (by decide) s
 have m3:=fun s=>A0f r.policy.window 60 (by decide) (by decide) s
 have m4:=fun s=>A0f r.policy.grace 40 (by decide) (by decide) s
 have m5:=fun s=>A0f r.policy.mode 3 (by decide) (by decide) s
 have m6:=fun s=>P4 r.policy.restock 3 (by decide) (by decide) s
 have m7:=fun s=>P4 r.policy.restock 2500 (by decide) (by decide) s
 have c1:=fun s=>B6H r.items s
 have c2:=fun s=>B4Y r.promos s
 have c3:∀ s,S P 102 [S7 r.tax] s fun v st'=>v=.agg [eB (L1 r.tax).incl,eB (L1 r.tax).byOrder,eI (L1 r.tax).round,A8 4 S3 (L1 r.tax).zones]∧st'=s:=fun s=>C1F r.tax s
 have c4:=fun s=>B0f r.policy.order s
 have c5:=fun s=>B0f r.policy.credit s
 clear h1 h2 h3 h5 h6 h7 h8 h9
 generalize B5 r.ship.fee 900=M1 at *
 generalize B5 r.ship.free 3=M2 at *
 generalize B5 r.policy.window 60=M3 at *
 generalize B5 r.policy.grace 40=M4 at *
 generalize B5 r.policy.mode 3=M5 at *
 generalize B5 r.policy.restock 3=M6 at *
 generalize B5 r.policy.restock 2500=M7 at *
 generalize G3 r.items=V1 at *
 generalize N3 r.promos=V2 at *
 generalize L1 r.tax=V3 at *
 generalize O2 r.policy.order=V4 at *
 generalize O2 r.policy.credit=V5 at *
 refine A0Q ?_
 refine F4 [1,3] Tryz.func44 ?_
 intro b2 hb;conv=>whnf
 refine ⟨[45],[],List.range 46,by kernel_rfl,?_⟩;conv=>whnf
 refine cqW (c1 _) ?_
 refine cqW (c2 _) ?_
 refine cqW (c3 _) ?_
 refine cqW (m1 _) ?_
 refine cqW (m2 _) ?_
 rw [w1]
 refine cqW (m3 _) ?_
 rw [w2]
 refine cqW (m4 _) ?_
 refine cqW (m5 _) ?_
 rw [w3]
 refine cqW (m6 _) ?_
 refine cqW (m7 _) ?_
 rw [w4]
 refine cqW (c4 _) ?_
 refine cqW (c5 _) ?_
 refine Z7 (A0 ..) rfl ?_
 refine J6 (A0 ..) (A4 ..) ?_
 exact ⟨rfl,((F1.refl st).upd hb).over hb⟩
end Go.Proofs.YtaapofnkmpiknaaGreat
namespace Go.Proofs.YtaapofnkmpiknaaGreat
open Go Go.Ab
def C3A (rates:List Int) (i:Nat):QE:=(-(gI rates i),(i:Int))
def B9R (rates:List Int):List QE:=(List.range rates.length).map (C3A rates)
def B0j (rates:List Int):List QE:=(B9R rates).mergeSort fun a b=>!G6 b a
theorem A8W (rates:List Int):(B0j rates).Pairwise fun a b=>G6 b a=false:=by
 have:=D8W (le:=fun a b:QE=>!G6 b a) (fun a b c h1 h2=>by simp only [D6X] at *;exact A0D h2 h1) (fun a b=>by
  cases h:G6 b a with
  | false=>rfl
  | true=>rw [A0n h];rfl) (B9R rates)
 exact this.imp (fun h=>by simpa using h)
theorem A5t (rates:List Int):(B0j rates).Perm (B9R rates):=D9r ..
def K5 (rates:List Int) (k:Int):List Nat:=(List.range rates.length).filter fun i=>-(gI rates i)==k
theorem C2k (rates:List Int) (k:Int):(B0j rates).filter (fun e=>e.1==k)=(K5 rates k).map fun i:Nat=>(k,(i:Int)):=by
 have h1:((B0j rates).filter (fun e=>e.1==k)).Perm ((K5 rates k).map fun i:Nat=>(k,(i:Int))):=by
  refine ((A5t rates).filter _).trans ?_
  unfold B9R K5
  rw [List.filter_map]
  refine List.Perm.of_eq ?_
  refine D7V fun i hi=>?_
  have:=(D7F.1 hi).2
  show (-(gI rates i),(i:Int))=(k,(i:Int))
  have h : -(gI rates i)=k:=by simpa [C3A] using this
  rw [h]
 refine h1.eq_of_pairwise (le:=fun a b=>G6 b a=false) (fun a b _ _ h3 h4=>(A4B h4 h3)) (D9A D8F (A8W rates)) ?_
 refine List.pairwise_map.2 ?_
 unfold K5
 refine (D9A D8F List.pairwise_lt_range).imp fun {a b} hab=>?_
 rw [S4]
 show ¬(k>k∨k=k∧(b:Int)<(a:Int))
 omega
theorem C2o {E:List QE} (hs:E.Pairwise fun a b=>G6 b a=false) {k:Int} (hk:∀ e∈E,e.1≤k):E=E.filter (fun e=>e.1==k)++E.filter (fun e=>!(e.1==k)):=by
 induction E with
 | nil=>rfl
 | cons e E ih =>
  have hs':=D8p.1 hs
  by_cases h:e.1=k
  ·rw [D7I (by simpa using h),D7O (by simpa using h),D8Z,←ih hs'.2 fun x hx=>hk x (D7d _ hx)]
  ·have hlt:∀ x∈E,x.1<k:=fun x hx=>by
    have h1:=(S4 _ _).1 (hs'.1 x hx)
    have h2:=hk e (D7f ..)
    omega
   have hn:E.filter (fun e=>e.1==k)=[]:=List.filter_eq_nil_iff.2 fun x hx=>by have:=hlt x hx;simp;omega
   have ha:E.filter (fun e=>!(e.1==k))=E:=List.filter_eq_self.2 fun x hx=>by have:=hlt x hx;simp;omega
   rw [D7O (by simpa using h),D7I (by simpa using h),hn,ha];rfl
def A1D (rates:List Int) (D:Int→Bool):List QE:=(B0j rates).filter fun e=>!D e.1
theorem A8z (rates:List Int) (D:Int→Bool):(A1D rates D).Pairwise fun a b=>G6 b a=false:=D9A D8F (A8W rates)
theorem B8p {rates:List Int} {D:Int→Bool} {x:QE} {E:List QE} (h:A1D rates D=x::E) :
  D x.1=false∧x::E=((K5 rates x.1).map fun i:Nat=>(x.1,(i:Int)))++A1D rates (fun y=>D y||y==x.1):=by
 have hs:=A8z rates D
 have hx:x∈A1D rates D:=by rw [h];exact D7f ..
 have hD:D x.1=false:=by
  have:=(D7F.1 hx).2
  simpa using this
 refine ⟨hD,?_⟩
 have hk:∀ e∈A1D rates D,e.1≤x.1:=fun e he=>by
  rw [h] at he hs
  rcases D8f.1 he with rfl | he
  ·exact D7l _
  ·have:=(S4 _ _).1 ((D8p.1 hs).1 e he);omega
 have h2:=C2o hs hk
 rw [←h,h2]
 congr 1
 ·rw [←C2k]
  unfold A1D
  rw [List.filter_filter]
  refine List.filter_congr fun e he=>?_
  by_cases e1:e.1=x.1
  ·rw [e1,hD];simp
  ·simp [e1]
 ·unfold A1D
  rw [List.filter_filter]
  refine List.filter_congr fun e he=>?_
  show (!(e.1==x.1)&&!D e.1)=!(D e.1||e.1==x.1)
  rw [Bool.not_or,Bool.and_comm]
theorem B4K {rates:List Int} {D:Int→Bool} {k:Int}:∀ y∈A1D rates (fun z=>D z||z==k),(y.1==k)=false:=fun y hy=>by
 have:=(D7F.1 hy).2
 simp only [D6X,D7Q] at this
 exact this.2
theorem B6n (rates:List Int):A1D rates (fun _=>false)=B0j rates:=List.filter_eq_self.2 fun x _=>rfl
theorem A0z {rates:List Int} {k:Int} {i:Nat} (hi:i∈K5 rates k) : -(gI rates i)=k∧i<rates.length∧A8B rates i=K5 rates k:=by
 have h1:=D7F.1 hi
 have h2 : -(gI rates i)=k:=by simpa using h1.2
 refine ⟨h2,D6T.1 h1.1,?_⟩
 unfold A8B K5
 refine List.filter_congr fun j _=>?_
 rw [D9J,D7B,D7B];omega
theorem B3H (rates:List Int) (k:Int):(K5 rates k).Nodup:=D9A D8F List.nodup_range
theorem C6s {rates:List Int} {k:Int} {j:Nat} (hj:j<(K5 rates k).length):A0B rates ((K5 rates k)[j])=j:=by
 have hm:=A0z (D8c hj)
 have h1:=A8C hm.2.1
 rw [hm.2.2] at h1
 have h2:=D6U.1 h1
 obtain ⟨h3,h4⟩:=h2
 have:=(List.nodup_iff_pairwise_ne.1 (B3H rates k))
 rcases Nat.lt_trichotomy (A0B rates ((K5 rates k)[j])) j with e | e | e
 ·exact absurd h4 (D8n.1 this _ _ h3 hj e)
 ·exact e
 ·exact absurd h4.symm (D8n.1 this _ _ hj h3 e)
def A2L (t:Tax) (rates nets:List Int) (k:Int):List Int:=D2 (N6 t (A2 ((K5 rates k).map (gI nets))) (-k)) ((K5 rates k).map (gI nets))
theorem C4p {t:Tax} {rates nets:List Int} {k:Int} {j:Nat} (hj:j<(K5 rates k).length):gI (A2L t rates nets k) j=A1H t rates nets ((K5 rates k)[j]):=by
 have hm:=A0z (D8c hj)
 unfold A2L A1H I8
 rw [C6s hj,hm.2.2,show gI rates ((K5 rates k)[j]) = -k by omega]
end Go.Proofs.YtaapofnkmpiknaaGreat
namespace Go.Proofs.YtaapofnkmpiknaaGreat
open Go Go.Ab
attribute [local irreducible] upd del
theorem C4A (st0:St) (q:Nat) (f:Bool) (st:St) (h:QSt st0 q f [] st):S P 237 [.optr 1 q 0 0] st fun v st'=>v=.tuple [eI 0,eI 0,.bool false]∧st'=st:=by
 obtain ⟨h1,h2,sv,⟨fq,hqs,hq0⟩,h3⟩:=h
 refine F4 [] Tryz.func237 ?_
 rcases h3 with ⟨_,rfl⟩ | ⟨b,l,n,a1,a2,rfl,a4,a5,a6,a7,a8,a9⟩
 ·refine J6 hqs hq0 ?_
  exact ⟨rfl,rfl⟩
 ·have e:n=0:=by
   have:=a8.length_eq
   rw [D6N,D7X] at this;omega
  subst e
  refine J6 hqs hq0 ?_
  exact ⟨rfl,rfl⟩
theorem B5b (st0:St) (q:Nat) (f:Bool) (x:QE) (es:List QE) (st:St) (h:QSt st0 q f (x::es) st) (htop:∀ y∈es,G6 y x=false):S P 237 [.optr 1 q 0 0] st fun v st'=>v=.tuple [eI x.1,eI x.2,.bool true]∧st'=st:=by
 obtain ⟨h1,h2,sv,hq,h3⟩:=h
 rcases h3 with ⟨h,_⟩ | ⟨b,l,n,a1,a2,rfl,a4,a5,a6,a7,a8,a9⟩
 ·cases h
 have hn:n=es.length+1:=by
  have:=a8.length_eq
  rw [D6N,D7o] at this;omega
 subst hn
 have hx:at_ l 0=x:=by
  have m0:at_ l 0∈x::es:=by
   refine a8.subset ?_
   have:(l.take (es.length+1)).getD 0 default=at_ l 0:=by
    unfold at_;rw [D6D,D6D,D6S (by omega)]
   rw [←this];exact A7 (by rw [D6N];omega)
  have hmem:x∈l.take (es.length+1):=a8.symm.subset (D7f ..)
  obtain ⟨k,hk,he⟩:=D5 hmem
  rw [D6N] at hk
  have hxk:x=at_ l k:=by
   rw [he];unfold at_;rw [D6D,D6D,D6S (by omega)]
  have t1:G6 x (at_ l 0)=false:=by rw [hxk];exact a6.top k (by omega)
  rcases D8f.1 m0 with e | e
  ·exact e
  ·exact A4B (htop _ e) t1
 obtain ⟨fq,hqs,hq0⟩:=hq
 obtain ⟨fe,hes,hef⟩:=a7
 have h0:fe 0=A5Z x:=by rw [hef 0 (by omega),hx]
 refine F4 [] Tryz.func237 ?_
 refine J6 hqs hq0 ?_
 rw [show (((es.length+1:Nat):Int)==0)=false by rw [D7p];omega];conv=>whnf
 refine ⟨[],[],List.range 17,by kernel_rfl,?_⟩;conv=>whnf
 refine J6 hqs hq0 ?_
 refine E7 ?_
 refine ldV hes rfl (by omega) (v:=A5Z x) h0 ?_;conv=>whnf
 refine J6 hqs hq0 ?_
 refine E7 ?_
 refine ldV hes rfl (by omega) (v:=A5Z x) h0 ?_;conv=>whnf
 exact ⟨rfl,rfl⟩
def IsL (L:List Int) (y:K4):Prop:=∃ f,y=⟨2,1,L.length,f⟩∧∀ i,i<L.length→f i=eI (gI L i)
def OQ (bo q:Nat) (L:List Int) (fl:Bool) (es:List QE):St→St→Prop:=Y7 bo (IsL L) (fun s t=>QSt s q fl es t)
theorem B1g (bo q:Nat) (L:List Int) (fl:Bool) (es:List QE):L2 (OQ bo q L fl es):=A0w (B9G q fl es)
abbrev gN (G:List Nat) (i:Nat):Int:=((G.getD i 0:Nat):Int)
def QJ (G:List Nat) (k:Int) (Rest:List QE) (j:Nat):List QE:=((G.drop j).map fun i:Nat=>(k,(i:Int)))++Rest
theorem C5R {G:List Nat} {k:Int} {Rest:List QE} {j:Nat} (hj:j<G.length):QJ G k Rest j=(k,gN G j)::QJ G k Rest (j+1):=by
 unfold QJ gN
 rw [D8I hj,D6D,D6K hj];rfl
theorem C2U {G:List Nat} {k:Int} {Rest:List QE}:QJ G k Rest G.length=Rest:=by
 unfold QJ;rw [List.drop_length];rfl
def C4t (es:List QE):AV:=match es with
 | []=>.tuple [eI 0,eI 0,.bool false]
 | y::_=>.tuple [eI y.1,eI y.2,.bool true]
theorem C4B (st0:St) (q:Nat) (f:Bool) (es:List QE) (st:St) (h:QSt st0 q f es st) (hs:es.Pairwise fun a b=>G6 b a=false):S P 237 [.optr 1 q 0 0] st fun v st'=>v=C4t es∧st'=st:=by
 cases es with
 | nil=>exact C4A st0 q f st h
 | cons y es=>exact B5b st0 q f y es st h (D8p.1 hs).1
def B3D (t:Tax) (rates nets:List Int) (D:Int→Bool) (L:List Int):Prop:=L.length=nets.length∧∀ i,i<nets.length→gI L i=if D (-(gI rates i))=true then A1H t rates nets i else 0
theorem C3H {a b:List Int} (hl:a.length=b.length) (h:∀ i,i<a.length→gI a i=gI b i):a=b:=D9a hl fun i h1 h2=>by
 have:=h i h1
 unfold gI at this
 rw [D6D,D6K h1,D6D,D6K h2] at this
 exact this
theorem C3y {t:Tax} {rates nets:List Int} {D:Int→Bool} {L:List Int} (h:B3D t rates nets D L) (hr:rates.length=nets.length) (hE:A1D rates D=[]):L=H0 t rates nets:=by
 have hl:(H0 t rates nets).length=nets.length:=by unfold H0;rw [D6J,D7g]
 refine C3H (by rw [h.1,hl]) fun i h1=>?_
 have hi:i<nets.length:=by rw [←h.1];exact h1
 have h3:=h.2 i hi
 have hD:D (-(gI rates i))=true:=by
  have hm:C3A rates i∈B0j rates:=(A5t rates).mem_iff.2 (D6Z.2 ⟨i,D6T.2 (by omega),rfl⟩)
  have:=List.filter_eq_nil_iff.1 hE _ hm
  simpa [C3A] using this
 rw [if_pos hD] at h3
 rw [h3]
 unfold H0 gI
 rw [D6D,D7C,D8i hi];rfl
def A4C (L:List Int) (G:List Nat) (X:List Int):Nat→List Int
 | 0=>L
 | j+1=>(A4C L G X j).set (G.getD j 0) (gI X j)
theorem A8N (L:List Int) (G:List Nat) (X:List Int) (j:Nat):(A4C L G X j).length=L.length:=by
 induction j with
 | zero=>rfl
 | succ j ih=>show ((A4C L G X j).set _ _).length=_;rw [D7W,ih]
theorem C0m {L:List Int} {G:List Nat} {X:List Int} (hn:G.Nodup) (hG:∀ i∈G,i<L.length):∀ j,j≤G.length→∀ i,i<L.length→gI (A4C L G X j) i=if i∈G.take j then gI X (G.idxOf i) else gI L i
 | 0,_,i,hi=>by rw [D8h,if_neg D8j];rfl
 | j+1,hj,i,hi=>by
  have ih:=C0m (X:=X) hn hG j (by omega) i hi
  have hgj:G.getD j 0=G[j]:=by rw [D6D,D6K (by omega)];rfl
  show gI ((A4C L G X j).set (G.getD j 0) (gI X j)) i=_
  rw [hgj,D8J (show j<G.length by omega)]
  by_cases e:G[j]=i
  ·have hidx:G.idxOf i=j:=by rw [←e];exact hn.idxOf_getElem j (by omega)
   rw [if_pos (List.mem_append_right _ (D7i.2 e.symm)),hidx]
   unfold gI
   rw [e,D6D,List.getElem?_set_self (by rw [A8N];exact hi)];rfl
  ·have hs:gI ((A4C L G X j).set G[j] (gI X j)) i=gI (A4C L G X j) i:=by
    unfold gI;rw [D6D,D8w e,←D6D]
   rw [hs,ih]
   by_cases hm:i∈G.take j
   ·rw [if_pos hm,if_pos (List.mem_append_left _ hm)]
   ·rw [if_neg hm,if_neg]
    intro h
    rcases D7T.1 h with h | h
    ·exact hm h
    ·exact e (D7i.1 h).symm
theorem B3E {t:Tax} {rates nets:List Int} {D:Int→Bool} {L:List Int} {k:Int} (h:B3D t rates nets D L) (hr:rates.length=nets.length):B3D t rates nets (fun y=>D y||y==k) (A4C L (K5 rates k) (A2L t rates nets k) (K5 rates k).length):=by
 have hG:∀ i∈K5 rates k,i<L.length:=fun i hi=>by rw [h.1,←hr];exact (A0z hi).2.1
 refine ⟨by rw [A8N];exact h.1,fun i hi=>?_⟩
 rw [C0m (B3H rates k) hG _ (D6M _) i (by rw [h.1];exact hi),D6O]
 by_cases hm:i∈K5 rates k
 ·obtain ⟨h1,h2,h3⟩:=A0z hm
  have hlt:=List.idxOf_lt_length_iff.2 hm
  rw [if_pos hm,C4p hlt,List.getElem_idxOf hlt,if_pos (by rw [h1];simp)]
 ·have hne:¬ -(gI rates i)=k:=fun e=>hm (D7F.2 ⟨D6T.2 (by omega),by rw [e];exact D8S k⟩)
  rw [if_neg hm,h.2 i hi]
  have:(-(gI rates i)==k)=false:=D7p.2 hne
  simp only [this,D7w]
theorem IsL.set {L:List Int} {f:Nat→AV} {i:Nat} {v:Int} (h:∀ k,k<L.length→f k=eI (gI L k)):IsL (L.set i v) ⟨2,1,L.length,I4 f i (eI v)⟩:=by
 refine ⟨_,by rw [D7W],fun k hk=>?_⟩
 rw [D7W] at hk
 by_cases e:k=i
 ·subst e
  rw [A4];unfold gI
  rw [D6D,List.getElem?_set_self hk];rfl
 ·rw [H4 e,h k hk];unfold gI
  rw [D6D,D6D,D8w (fun e2=>e e2.symm)]
theorem C1l {rates:List Int} {D:Int→Bool} {x:QE} {E:List QE} (h:A1D rates D=x::E):∃ i,i<rates.length∧i∈K5 rates x.1∧gI rates i = -x.1:=by
 have hx:x∈B0j rates:=(D7F.1 (show x∈A1D rates D by rw [h];exact D7f ..)).1
 obtain ⟨i,hi,rfl⟩:=D6Z.1 ((A5t rates).mem_iff.1 hx)
 have hi:=D6T.1 hi
 exact ⟨i,hi,D7F.2 ⟨D6T.2 hi,D8S _⟩,by show gI rates i = - -(gI rates i);omega⟩
theorem C7U {rates:List Int} {k:Int} {j:Nat} (hj:j<(K5 rates k).length):(gN (K5 rates k) j).toNat<rates.length∧0≤gN (K5 rates k) j:=by
 have hm:(K5 rates k).getD j 0∈K5 rates k:=by rw [D6D,D6K hj];exact D8c hj
 have:=(A0z hm).2.1
 exact ⟨by show ((((K5 rates k).getD j 0:Nat):Int)).toNat<_;omega,by show 0≤(((K5 rates k).getD j 0:Nat):Int);omega⟩
theorem B8H (es:List QE):∃ c1 c2 is,C4t es=.tuple [eI c1,eI c2,.bool is]:=by
 cases es with
 | nil=>exact ⟨0,0,false,rfl⟩
 | cons y es=>exact ⟨y.1,y.2,true,rfl⟩
theorem A9F {c1 c2 d1 d2:Int} {is js:Bool} (h:AV.tuple [eI c1,eI c2,.bool is]=.tuple [eI d1,eI d2,.bool js]):c1=d1∧c2=d2∧is=js:=by
 injection h with h;injection h with h1 h;injection h with h2 h;injection h with h3 h
 injection h1 with _ h1;injection h2 with _ h2;injection h3 with h3
 exact ⟨h1,h2,h3⟩
set_option maxHeartbeats 8000000 in
theorem C0N (t:Tax) (rates nets:List Int) (hn:A4Q nets) (hr:rates.length=nets.length) (hq:∀ x∈rates,0≤x∧x≤10000) (st:St) :
  S P 191 [S7 t,B0 rates,B0 nets] st fun v st'=>v=B0 (H0 t rates nets)∧st'=st:=by
 have hnl:=hn.len
 have hol:(H0 t rates nets).length=nets.length:=by unfold H0;rw [D6J,D7g]
 refine S.post (post:=fun v s=>∃ bo,v=.own 1 bo 0 nets.length∧st bo=none∧(∃ y,IsL (H0 t rates nets) y∧s bo=some y)∧F1 st s) ?_ (fun v s ⟨bo,h1,h2,⟨y,⟨f,hy,hf⟩,hb⟩,h4⟩=>⟨_,st,⟨rfl,rfl⟩,by
  subst hy;rw [h1]
  have e:B0 (H0 t rates nets)=.arr 1 nets.length (fun i=>eI (gI (H0 t rates nets) i)):=by unfold B0 A8;rw [hol]
  rw [e]
  exact (O4 hb rfl (by show nets.length≤(H0 t rates nets).length;omega) (fun i hi=>hf i (by omega))).trans ((F1.del h4 h2).shift _)⟩)
 refine F4 [3] Tryz.func191 ?_
 refine mkO rfl rfl rfl (by show 8 * nets.length≤_;omega) (by omega) (by rfl) (fun bo hbo=>?_);conv=>whnf
 refine call (B2e _) (fun v s hv=>?_)
 obtain ⟨q,rfl,hQ⟩:=hv
 conv=>whnf
 refine lp rates.length [2,3,7,8,28,29,30] (fun i vs s=>vs=[B0 nets,.fptr (S7 t) 0,.own 1 bo 0 nets.length,.optr 1 q 0 0,B0 rates,eI rates.length,eI i]∧QSt (upd st bo ⟨2,1,nets.length,fun _=>H7 r2.zero⟩) q true ((List.range i).map (C3A rates)) s) ?_ ?_
 ·conv=>whnf
  exact ⟨rfl,hQ⟩
 clear hQ s
 rintro i vs s hi ⟨rfl,hQ⟩
 conv=>whnf
 cases h1:decide ((i:Int)<(rates.length:Int))
 case true =>
  have hi':=E2 h1
  have hx:=hq (gI rates (i:Int).toNat) (A7 hi')
  have hw:IntKind.i64.wrap (0 - rates.getD (i:Int).toNat default) = -(gI rates (i:Int).toNat):=(A5 (show _≤0 - gI rates (i:Int).toNat by omega) (show 0 - gI rates (i:Int).toNat≤_ by omega)).trans (by show 0 - gI rates (i:Int).toNat=_;omega)
  conv=>whnf
  refine E7 ?_
  rw [hw]
  refine call (A8O _ q _ _ _ _ hQ (by rw [D6J,D7g];omega)) (fun v s' hv=>?_)
  obtain ⟨rfl,hQ2⟩:=hv
  conv=>whnf
  refine G2 ?_
  exact nx hi' ⟨by rw [B4 (by omega)],by rw [D8m,D7k];exact hQ2⟩
 obtain rfl:=C5 h1 hi
 have hQ2:=QSt.perm hQ (A5t rates).symm
 clear hQ
 conv=>whnf
 refine ⟨[2,3,7,8],fun m vs u=>∃ (D:Int→Bool) (fl:Bool) (L:List Int),m=(A1D rates D).length∧vs=[B0 nets,.fptr (S7 t) 0,.own 1 bo 0 nets.length,.optr 1 q 0 0]∧B3D t rates nets D L∧OQ bo q L fl (A1D rates D) st u,?_,?_⟩
 ·conv=>whnf
  exact ⟨_,fun _=>false,true,List.replicate nets.length 0,rfl,rfl,⟨D7L,fun i hi=>by
   rw [if_neg (by simp)];unfold gI
   rw [D6D,D8V];split<;>rfl⟩,hbo,_,⟨fun _=>H7 r2.zero,by rw [D7L],fun i hi=>by
   unfold gI;rw [D6D,D8V];split<;>rfl⟩,by rw [B6n];exact hQ2⟩
 clear hQ2
 rintro m vs u ⟨D,fl,L,rfl,rfl,hdone,hb0,y,hy,hQ3⟩
 conv=>whnf
 refine B3 (A9J _ q fl _ _ hQ3) ?_
 cases hE:A1D rates D with
 | nil =>
  conv=>whnf
  have hL:=C3y hdone hr hE
  rw [hE] at hQ3
  exact ⟨bo,rfl,hb0,⟨y,by rw [←hL];exact hy,hQ3.sup bo _ (A0 ..)⟩,F1.drop hQ3.sup hb0⟩
 | cons x E =>
  obtain ⟨hD,hEq⟩:=B8p hE
  obtain ⟨i0,hi0,hi0m,hi0r⟩:=C1l hE
  have hsort:=A8z rates D
  have hkey:∀ y∈A1D rates (fun z=>D z||z==x.1),(y.1==x.1)=false:=B4K
  have hmeas:(A1D rates (fun z=>D z||z==x.1)).length<E.length+1:=by
   have h1:=D8E List.length hEq
   rw [D6P,D6J,D7o] at h1
   have h2:0<(K5 rates x.1).length:=List.length_pos_of_mem hi0m
   omega
  have hnext:=B3E (k:=x.1) hdone hr
  have hparts:(A2L t rates nets x.1).length=(K5 rates x.1).length∧∀ st,S P 238 [eI (N6 t (A2 ((K5 rates x.1).map (gI nets))) (-x.1)),B0 ((K5 rates x.1).map (gI nets))] st fun v st'=>v=.tuple [B0 (A2L t rates nets x.1),eI 0]∧st'=st:=by
   have hw:=A2Y (t:=t) hn hr (i:=i0) (hq (gI rates i0) (A7 hi0))
   have e:I8 rates nets i0=(K5 rates x.1).map (gI nets):=by unfold I8;rw [(A0z hi0m).2.2]
   rw [e,hi0r] at hw
   have h3:=(T2 hw).2.1
   refine ⟨by unfold A2L;rw [h3,D6J],fun st=>?_⟩
   exact A9y _ _ hw st
  have hGok:=fun j=>C7U (rates:=rates) (k:=x.1) (j:=j)
  have hrate:0≤-x.1∧-x.1≤10000:=by rw [←hi0r];exact hq (gI rates i0) (A7 hi0)
  have hGl:(K5 rates x.1).length≤1000:=by
   have:(K5 rates x.1).length≤(List.range rates.length).length:=D9g _ _
   rw [D7g] at this;omega
  have hgsum:0≤A2 ((K5 rates x.1).map (gI nets)):=C1 fun v hv=>by
   obtain ⟨j,hj,rfl⟩:=D6Z.1 hv
   exact hn.pos _ (A7 (by have:=(A0z hj).2.1;omega))
  have hgs:∀ j,j≤(K5 rates x.1).length→0≤A2 (((K5 rates x.1).take j).map (gI nets))∧A2 (((K5 rates x.1).take j).map (gI nets))≤10000000000000:=fun j hj=>by
   have hsub:(((K5 rates x.1).take j).map (gI nets)).Sublist nets:=by
    have h1:(((K5 rates x.1).take j).map (gI nets)).Sublist ((List.range nets.length).map (gI nets)):=by
     refine List.Sublist.map _ ((List.take_sublist _ _).trans ?_)
     unfold K5;rw [hr];exact D8F
    rw [A6u] at h1;exact h1
   have h2:=B2C hsub hn.pos
   have h3:=hn.sum
   exact ⟨C1 fun v hv=>hn.pos v (hsub.subset hv),by omega⟩
  rw [hE] at hQ3 hsort
  have hQ0:x::E=QJ (K5 rates x.1) x.1 (A1D rates (fun z=>D z||z==x.1)) 0:=hEq
  generalize K5 rates x.1=G at *
  generalize hRest:A1D rates (fun z=>D z||z==x.1)=Rest at *
  generalize A2L t rates nets x.1=X at *
  clear hEq
  conv=>whnf
  rw [show decide ((((x::E).length:Nat):Int)>0)=true by rw [D6F,D7o];omega];conv=>whnf
  refine I2 (B5b _ q fl x E _ hQ3 (D8p.1 hsort).1) ?_
  refine I2 (B5b _ q fl x E _ hQ3 (D8p.1 hsort).1) ?_
  have hsortQ:∀ j,j≤G.length→(QJ G x.1 Rest j).Pairwise fun a b=>G6 b a=false:=fun j hj=>by
   rw [hQ0] at hsort
   refine D9A ?_ hsort
   unfold QJ
   rw [List.drop_zero]
   exact List.Sublist.append ((D9q j G).map _) (List.Sublist.refl _)
  refine lp G.length [2,3,7,8,11,14,15,16,17,18,19] (fun j vs u=>∃ (fl:Bool) (lv wv:AV) (c1 c2:Int) (is:Bool),vs=[B0 nets,.fptr (S7 t) 0,.own 1 bo 0 nets.length,.optr 1 q 0 0,eI x.1,lv,wv,eI (A2 ((G.take j).map (gI nets))),eI c1,eI c2,.bool is]∧C4t (QJ G x.1 Rest j)=.tuple [eI c1,eI c2,.bool is]∧ROut (fun s t=>ROut (OQ bo q L fl (QJ G x.1 Rest j)) 3 1 (fun i=>eI (gN G i)) j s lv t) 2 1 (fun i=>eI (gI (G.map (gI nets)) i)) j st wv u) ?_ ?_
  ·conv=>whnf
   exact ⟨fl,.emp,.emp,x.1,x.2,true,rfl,by rw [←hQ0];rfl,ROut.start (show ROut _ _ _ _ 0 st .emp u from ROut.start (show OQ bo q L fl (QJ G x.1 Rest 0) st u from ⟨hb0,y,hy,by rw [←hQ0];exact hQ3⟩) _ _ _) _ _ _⟩
  rintro j vs w hj ⟨fl2,lv,wv,c1,c2,is,rfl,hpk,hR⟩
  by_cases hjl:j<G.length
  ·have hQn:=C5R (G:=G) (k:=x.1) (Rest:=Rest) hjl
   rw [hQn] at hpk
   obtain ⟨rfl,rfl,rfl⟩:=A9F hpk
   have hGj:=hGok j hjl
   have hxn:0≤gI nets (gN G j).toNat∧gI nets (gN G j).toNat≤A2 nets:=⟨hn.pos _ (A7 (by omega)),J4 hn.pos (A7 (by omega))⟩
   have hns:=hn.sum
   have hg1:=hgs j hj
   have hg2:=hgs (j+1) hjl
   have hgt:((G.take (j+1)).map (gI nets))=((G.take j).map (gI nets))++[gI nets (gN G j).toNat]:=by
    rw [D8J hjl,D7k]
    have:(gN G j).toNat=G[j]:=by show (((G.getD j 0:Nat):Int)).toNat=_;rw [D6D,D6K hjl];rfl
    rw [this];rfl
   have hgm:gI (G.map (gI nets)) j=nets.getD (gN G j).toNat default:=by
    unfold gI
    rw [D6D,D7C,D6K hjl]
    have:(gN G j).toNat=G[j]:=by show (((G.getD j 0:Nat):Int)).toNat=_;rw [D6D,D6K hjl];rfl
    rw [this];rfl
   have hsum:IntKind.i64.wrap (A2 ((G.take j).map (gI nets))+nets.getD (gN G j).toNat default)=A2 ((G.take (j+1)).map (gI nets)):=by
    rw [hgt,F5] at hg2 ⊢
    have e1:A2 [gI nets (gN G j).toNat]=gI nets (gN G j).toNat:=by rw [J7];exact D8R _
    rw [e1] at hg2 ⊢
    exact A5 (show _≤A2 ((G.take j).map (gI nets))+gI nets (gN G j).toNat by omega) (show A2 ((G.take j).map (gI nets))+gI nets (gN G j).toNat≤_ by omega)
   conv=>whnf
   rw [show (x.1==x.1)=true from D8S _];conv=>whnf
   obtain ⟨s0,hw0,s1,hl0,hb1,y1,hy1,hq1⟩:=hR
   rw [hQn] at hq1
   have hsj:=hsortQ j hj
   rw [hQn] at hsj
   refine call (A9K _ q fl2 (x.1,gN G j) (QJ G x.1 Rest (j+1)) _ hq1 (D8p.1 hsj).1) (fun v w' hv=>?_)
   obtain ⟨rfl,hq2⟩:=hv
   have hin:ROut (OQ bo q L false (QJ G x.1 Rest (j+1))) 3 1 (fun i=>eI (gN G i)) j s0 lv w':=⟨s1,hl0,hb1,y1,hy1,hq2⟩
   have hwv:wv=.emp∨∃ b,wv=.own 1 b 0 j:=ROut.head (show ROut (fun s t=>ROut (OQ bo q L false (QJ G x.1 Rest (j+1))) 3 1 (fun i=>eI (gN G i)) j s lv t) 2 1 (fun i=>eI (gI (G.map (gI nets)) i)) j st wv w' from ⟨s0,hw0,hin⟩)
   have hlv:=ROut.head hin
   obtain ⟨d1,d2,js,hpk2⟩:=B8H (QJ G x.1 Rest (j+1))
   have hB1:=B1g bo q L false (QJ G x.1 Rest (j+1))
   rcases hlv with rfl | ⟨bl,rfl⟩<;>rcases hwv with rfl | ⟨bw,rfl⟩
   all_goals
    conv=>whnf
    refine ⟨[2,3,8,9,10],[],[],.qui 0 (.qui 1 (.qui 4 (.qui 5 (.qui 6 (.qui 7 (.two 2 8 (.two 3 8 (.gen 8 (.gen 9 (.gen 10 (.qui 11 (.qui 12 .done))))) (.two 3 9 (.gen 9 (.gen 10 (.qui 11 (.qui 12 .done)))) (.gen 3 (.gen 10 (.qui 11 (.qui 12 .done)))))) (.two 2 9 (.two 3 9 (.gen 9 (.gen 10 (.qui 11 (.qui 12 .done)))) (.gen 3 (.gen 10 (.qui 11 (.qui 12 .done))))) (.gen 2 (.gen 3 (.gen 10 (.qui 11 (.qui 12 .done)))))))))))),by kernel_rfl,?_⟩;conv=>whnf
    refine E7 ?_
    repeat' (refine And.intro ?_ ?_<;>(conv=>whnf))
    all_goals
     refine ROut.app (q:=r3) hB1 rfl rfl rfl rfl rfl (f:=fun i=>eI (gN G i)) (by rfl) (by show (j+1) * 8≤140737488355328;omega) hin (fun lv' w2 hin2=>?_)
     have hout2:ROut (fun s t=>ROut (OQ bo q L false (QJ G x.1 Rest (j+1))) 3 1 (fun i=>eI (gN G i)) (j+1) s lv' t) 2 1 (fun i=>eI (gI (G.map (gI nets)) i)) j st _ w2:=⟨s0,hw0,hin2⟩
     conv=>whnf
     refine ROut.app (q:=r2) (U9 hB1 _ _ _ _ _) rfl rfl rfl rfl rfl (f:=fun i=>eI (gI (G.map (gI nets)) i)) (by show _=eI _;rw [hgm];rfl) (by show (j+1) * 8≤140737488355328;omega) hout2 (fun wv' w3 hout3=>?_);conv=>whnf
     refine E7 ?_
     rw [hsum]
     obtain ⟨s2,hw2,s3,hl3,hb3,y3,hy3,hq3⟩:=hout3
     have hpc:=C4B _ q false _ _ hq3 (hsortQ (j+1) hjl)
     rw [hpk2] at hpc
     refine I2 hpc ?_
     refine G2 ?_
     exact nx hjl ⟨false,lv',wv',d1,d2,js,rfl,hpk2,⟨s2,hw2,s3,hl3,hb3,y3,hy3,hq3⟩⟩
  ·obtain rfl:j=G.length:=by omega
   rw [C2U] at hpk
   have hexit:(is&&(c1==x.1))=false:=by
    cases Rest with
    | nil=>obtain ⟨rfl,rfl,rfl⟩:=A9F hpk;rfl
    | cons r Rest=>obtain ⟨rfl,rfl,rfl⟩:=A9F hpk;exact hkey r (D7f ..)
   rw [D6O]
   have hM:=fun u=>B8w t (A2 (G.map (gI nets))) (-x.1) hrate u
   have hwn:IntKind.i64.wrap (0 - x.1) = -x.1:=(A5 (by omega) (by omega)).trans (by omega)
   case' neg=>cases is
   case' neg.true=>have hne:(c1==x.1)=false:=hexit
   case' neg.true=>conv=>whnf
   case' neg.true=>rw [hne]
   all_goals
    conv=>whnf
    rw [hwn]
    refine B3 (hM _) ?_
    generalize N6 t (A2 (G.map (gI nets))) (-x.1)=M at hparts
    conv=>whnf
    obtain ⟨w2,hsh,hR2⟩:=ROut.shift (U9 (B1g bo q L fl2 Rest) _ _ _ _ _) (show ROut (fun s t=>ROut (OQ bo q L fl2 Rest) 3 1 (fun i=>eI (gN G i)) G.length s lv t) 2 1 (fun i=>eI (gI (G.map (gI nets)) i)) G.length st wv w by rw [C2U] at hR;exact hR)
    have e0:AV.arr 1 G.length (fun i=>eI (gI (G.map (gI nets)) i))=B0 (G.map (gI nets)):=by unfold B0 A8;rw [D6J]
    rw [e0] at hsh
    refine E5 (args':=[eI M,B0 (G.map (gI nets))]) (A6.cons (A6.keep _ _) hsh) (B3 (hparts.2 _) ?_);conv=>whnf
    refine lp X.length [2,3,7,8,14,97,98,99] (fun j vs u=>vs=[B0 nets,.fptr (S7 t) 0,.own 1 bo 0 nets.length,.optr 1 q 0 0,lv,B0 X,eI X.length,eI j]∧ROut (OQ bo q (A4C L G X j) fl2 Rest) 3 1 (fun i=>eI (gN G i)) G.length st lv u) ?_ ?_
    ·conv=>whnf
     exact ⟨rfl,hR2⟩
    rintro j vs v hjx ⟨rfl,hR3⟩
    have hPl:=A8N L G X j
    have hdl:=hdone.1
    conv=>whnf
    cases h5:decide ((j:Int)<(X.length:Int))
    case' true =>
     have hj5:=E2 h5
     have hGj:=hGok j (by omega)
     obtain ⟨s0,hcl,h1o,yo,⟨fo,rfl,hfo⟩,h2o⟩:=hR3
     obtain ⟨b,g,h3,rfl,rfl,h4⟩:∃ b g,st b=none∧lv=.own 1 b 0 G.length∧s0=upd st b ⟨3,1,G.length,g⟩∧∀ k,k<G.length→g k=eI (gN G k):=by
      rcases hcl with ⟨h0,_⟩ | ⟨_,b,g,h3,h4,h5,h6⟩
      ·omega
      ·exact ⟨b,g,h3,h4,h5,h6⟩
     have hbb:b≠bo:=fun e=>by subst e;rw [A0] at h1o;cases h1o
     conv=>whnf
     refine E7 ?_
     refine E7 ?_
     refine ldV (h2o.sup b _ (by rw [A9 hbb];exact A0 ..)) rfl (by show 0+((j:Nat):Int).toNat<G.length;omega) (v:=eI (gN G j)) (by show g (0+((j:Nat):Int).toNat)=_;rw [show 0+((j:Nat):Int).toNat=j by omega];exact h4 j (by omega)) ?_;conv=>whnf
     refine E7 ?_
     refine stV (h2o.sup bo _ (A0 ..)) rfl (by show 0+(gN G j).toNat<(A4C L G X j).length;omega) (hfo (0+(gN G j).toNat) (by omega)) (by rfl) ?_;conv=>whnf
     refine G2 ?_
     have hset:IsL (A4C L G X (j+1)) ⟨2,1,(A4C L G X j).length,I4 fo (0+(gN G j).toNat) (eI (gI X (j:Int).toNat))⟩:=by
      have:=IsL.set (i:=(gN G j).toNat) (v:=gI X j) hfo
      rw [show 0+(gN G j).toNat=(gN G j).toNat by omega,show (j:Int).toNat=j by omega]
      exact this
     have hw2:=(B9G q fl2 Rest).write (y':=⟨2,1,(A4C L G X j).length,I4 fo (0+(gN G j).toNat) (eI (gI X (j:Int).toNat))⟩) h2o (A0 ..)
     rw [C0] at hw2
     exact nx hj5 ⟨by rw [B4 (by omega)],⟨_,hcl,h1o,_,hset,hw2⟩⟩
    obtain rfl:=C5 h5 hjx
    conv=>whnf
    refine G2 ?_
    have hfin:=ROut.dropped (B1g bo q (A4C L G X X.length) fl2 Rest) hR3
    rw [hparts.1] at hfin
    exact ⟨Rest.length,hmeas,_,fl2,A4C L G X G.length,by rw [hRest],rfl,hnext,by rw [hRest];exact hfin⟩
end Go.Proofs.YtaapofnkmpiknaaGreat
namespace Go.Proofs.YtaapofnkmpiknaaGreat
open Go Go.Ab
theorem B3d (p:B1) (id K:Int):A2X (P5 p id K):=by
 have hs:=(A3a p.scope).2
 have hp:=A5m p.parts
 have ht5:=(A3b p.tiers 5000 (.inl rfl)).2
 have ht6:=(A3b p.tiers 5 (.inr rfl)).2
 refine ⟨?_,?_,?_,?_,?_,?_,?_⟩
 ·have:=T9 (B6h id);show (idN id).size≤_;omega
 ·have:=(B0c p).2;show (A2c p).size≤_;omega
 ·have:=(B1m p).2;show (A3z p).size≤_;omega
 ·show A2h (if K=4∨K=7 then ⟨[],[]⟩ else Q5 p.scope)
  split
  ·exact A6a.2
  ·exact hs
 ·show (if K=4 then P6 p.parts else []).length≤_
  split
  ·omega
  ·exact D7e _
 ·show ∀ x∈(if K=4 then P6 p.parts else []),_
  split
  ·exact fun x hx=>(hp.2 x hx).2
  ·exact fun x hx=>absurd hx D8j
 ·show (if K=5 then P7 p.tiers 5000 else if K=6 then P7 p.tiers 5 else []).length≤_
  split
  ·omega
  ·split
   ·omega
   ·exact D7e _
theorem B6N (l:List K3) (k:Nat) (hk:k<3):B7M (D7 l k):=by
 have hn:=D6W.1 A8c k (D6T.2 hk)
 have hz:=T9 hn
 unfold D7
 split
 ·obtain ⟨h1,h2,h3⟩:=A8L (l.getD k default).rates
  generalize T3 (l.getD k default).rates=R at h1 h2 h3 ⊢
  exact ⟨by show R.length≤_;omega,by show (Q3 k).size≤_;omega,fun x hx=>by have:=(h2 x hx).2;show x.cat.size≤_;omega⟩
 ·exact ⟨by show 0≤_;decide,by show (Q3 k).size≤_;omega,fun x hx=>absurd hx D8j⟩
theorem B8L (t:Tax):B3q (L1 t):=by
 refine ⟨by show ((List.range 3).map _).length≤_;rw [D6J,D7g];decide,fun z hz=>?_⟩
 obtain ⟨k,hk,rfl⟩:=D6Z.1 hz
 exact B6N _ k (D6T.1 hk)
theorem A8M (r:D6):A6M (G4 r):=by
 have h0:=A2k r.items
 have h2:=(A0F r.policy.order).2
 have h3:=(A0F r.policy.credit).2
 refine ⟨by show (G3 r.items).length≤_;omega,fun x hx=>?_,fun p hp=>?_,B8L r.tax,by show (O2 r.policy.order).length≤_;omega,by show (O2 r.policy.credit).length≤_;omega⟩
 ·have:=A7u hx
  exact ⟨by have:=this.2.1;show x.sku.size≤_;omega,by have:=this.2.2;show x.cat.size≤_;omega⟩
 ·obtain ⟨q,id,K,_,rfl⟩:=A6t hp
  exact B3d q id K
end Go.Proofs.YtaapofnkmpiknaaGreat
