/- Part 29 of the proof: contracts -/
import Derived.Test.YtaapofnkmpiknaaGreatPt28
set_option maxRecDepth 100000
set_option linter.unusedVariables false
set_option linter.unusedSimpArgs false
namespace Go.Proofs.YtaapofnkmpiknaaGreat
open Go Go.Ab
attribute [local irreducible] upd del
theorem B7b {t:Int} {l:List Pay} {i:Nat} (h:(N4 t (l.take i)).1≤1):∀ j,i≤j→N4 t (l.take j)=N4 t (l.take i)
 | 0,hj=>by rw [show i=0 by omega]
 | j+1,hj=>by
  by_cases e:i=j+1
  ·rw [e]
  ·have ih:=B7b h j (by omega)
   by_cases hl:j<l.length
   ·rw [show N4 t (l.take (j+1))=A4a (N4 t (l.take j)) (l.getD j default) from G8 hl _ _,ih]
    unfold A4a
    rw [if_neg (by omega)]
   ·rw [D8T (by omega)] at ih ⊢
    exact ih
set_option maxHeartbeats 2000000 in
theorem B9h (t:Int) (l:List Pay) (h0:0≤t) (ht:t≤100000000000000) (hl:l.length≤100000) (st:St):S P 57 [eI t,A8 2 B8A l] st fun v st'=>v=A8 2 B8A (N8 t l)∧st'=st:=by
 refine A0y (ty:=73) ?_
 refine F7 [7] Tryz.func57 ?_
 refine lp (min l.length 2) [0,1,5,6] (fun i vs s=>∃ sv,vs=[eI (N4 t (l.take i)).1,A8 2 B8A l,sv,eI i]∧E8 73 2 B8A (N4 t (l.take i)).2 st sv s) ?_ ?_
 ·conv=>whnf
  exact ⟨.emp,rfl,E8.start _ _ _ _⟩
 rintro i vs s hi ⟨sv,rfl,hc⟩
 have hin:=A7W h0 ht l i (by omega)
 have hfin:(¬ i<l.length∨¬ i<2∨¬(N4 t (l.take i)).1>1)→N4 t (l.take 2)=N4 t (l.take i):=fun h=>by
  rcases h with h | h | h
  ·rw [show i=l.length by omega,D7m,D8T (by omega)]
  ·rw [show i=2 by omega]
  ·exact B7b (by omega) 2 (by omega)
 have hst:i<l.length→N4 t (l.take (i+1))=A4a (N4 t (l.take i)) (l.getD (i:Int).toNat default):=fun h=>G8 h _ _
 have hP:N8 t l=if (N4 t (l.take 2)).1>0 then (N4 t (l.take 2)).2++[⟨1+B5 l.length 5,(N4 t (l.take 2)).1⟩] else (N4 t (l.take 2)).2:=rfl
 generalize hS1:N4 t (l.take (i+1))=S1 at hst
 generalize N4 t (l.take 2)=S2 at hfin hP
 generalize N4 t (l.take i)=S0 at *
 obtain ⟨L,O⟩:=S0
 obtain ⟨⟨z0,z1⟩,-,-,z3⟩:=hin
 simp only at *
 conv=>whnf
 refine B7 (fun h1=>?_) (fun h1=>?_)<;>rw [h1]<;>simp only [D7d,D7e] at h1
 case' refine_1 =>
  conv=>whnf
  refine B7 (fun h2=>?_) (fun h2=>?_)<;>rw [h2]<;>simp only [D7d,D7e] at h2
 case' refine_1.refine_1 =>
  conv=>whnf
  refine B7 (fun h3=>?_) (fun h3=>?_)<;>rw [h3]<;>simp only [D7d,D7e] at h3
 case' refine_1.refine_1.refine_1 =>
  have hi':i<min l.length 2:=by omega
  have hS:=hst (by omega)
  have m1:=C7 (l.getD (i:Int).toNat default).kind (n:=5) (by decide)
  have m2:=C7 (l.getD (i:Int).toNat default).amount (n:=L) (by omega)
  have w1:IntKind.i64.wrap (1+B5 (l.getD (i:Int).toNat default).kind 5)=1+B5 (l.getD (i:Int).toNat default).kind 5:=A4 (by omega) (by omega)
  have w2:IntKind.i64.wrap (1+B5 (l.getD (i:Int).toNat default).amount L)=1+B5 (l.getD (i:Int).toNat default).amount L:=A4 (by omega) (by omega)
  have w3:IntKind.i64.wrap (L - (1+B5 (l.getD (i:Int).toNat default).amount L))=L - (1+B5 (l.getD (i:Int).toNat default).amount L):=A4 (by omega) (by omega)
  have n1:=fun s=>A1l (l.getD (i:Int).toNat default).kind 5 (by decide) (by decide) s
  have n2:=fun s=>W6 (l.getD (i:Int).toNat default).amount L (by omega) (by omega) s
  unfold A4a B2k at hS
  rw [if_pos h3] at hS
  generalize B5 (l.getD (i:Int).toNat default).kind 5=K at *
  generalize B5 (l.getD (i:Int).toNat default).amount L=M at *
  conv=>whnf
  refine ⟨[16,17],[4,5,11,13],List.range 18,by kernel_rfl,?_⟩;conv=>whnf
  refine E9 ?_
  refine ⟨_,fun s _=>⟨rfl,rfl⟩,?_⟩;conv=>whnf
  refine ⟨_,fun s _=>F3 (n1 s),?_⟩;conv=>whnf
  refine E9 ?_
  refine ⟨_,fun s _=>⟨rfl,rfl⟩,?_⟩;conv=>whnf
  refine ⟨_,fun s _=>F3 (n2 s),?_⟩;conv=>whnf
  rw [w1,w2]
  refine B7 (fun h4=>?_) (fun h4=>?_)<;>rw [h4]<;>simp only [D7d,D7e] at h4
  ·rw [if_pos h4] at hS;conv=>whnf
   refine E8.app (q:=r73) (y:=(⟨1+K,1+M⟩:Pay)) rfl rfl rfl rfl rfl rfl (by show (O.length+1) * 16≤140737488355328;omega) hc (fun sv' s' hc'=>?_);conv=>whnf
   rw [w3]
   refine G3 ?_
   exact nx hi' ⟨sv',by rw [B4 (by omega),hS1,hS],by rw [hS1,hS];exact hc'⟩
  ·rw [if_neg h4] at hS;conv=>whnf
   refine G3 ?_
   exact nx hi' ⟨sv,by rw [B4 (by omega),hS1,hS],by rw [hS1,hS];exact hc⟩
 all_goals
  have hend:=hfin (by first | exact .inl (by omega) | exact .inr (.inl (by omega)) | exact .inr (.inr (by omega)))
  subst hend
  have m5:=fun s=>A1l (l.length:Int) 5 (by decide) (by decide) s
  have m6:=C7 (l.length:Int) (n:=5) (by decide)
  have w5:IntKind.i64.wrap (1+B5 (l.length:Int) 5)=1+B5 (l.length:Int) 5:=A4 (by omega) (by omega)
  simp only at hP
  rw [hP]
  generalize B5 (l.length:Int) 5=K at *
  conv=>whnf
  refine B7 (fun h6=>?_) (fun h6=>?_)<;>rw [h6]<;>simp only [D7d,D7e] at h6
  ·rw [if_pos h6];conv=>whnf
   refine I3 (m5 _) ?_
   rw [w5]
   refine E8.app (q:=r73) (y:=(⟨1+K,L⟩:Pay)) rfl rfl rfl rfl rfl rfl (by show (O.length+1) * 16≤140737488355328;omega) hc (fun sv' s' hc'=>?_);conv=>whnf
   exact hc'
  ·rw [if_neg h6];conv=>whnf
   exact hc
theorem B2K (items:List Ab.Item) (adds:List Add) (hi:items.length≤9223372036854775807) (st:St) :
  S P 55 [A8 4 F2 items,A8 2 A8z adds] st fun v st'=>v=.tuple [A8 3 I7 (A2X items adds).1,eI (A2X items adds).2]∧st'=st:=by
 have hB:A2X items adds=if adds.length<1∨adds.length>1000 then ([],2) else if (adds.any A5k)=true then ([],2) else if (adds.any fun x=>decide (Q7 items x.sku<0))=true then ([],7) else (adds.map (S4 items),0):=rfl
 refine S.post (post:=fun v s'=>(∃ e,A2X items adds=([],e)∧v=.tuple [.emp,eI e]∧F8 st s')∨(∃ sv,A2X items adds=(adds.map (S4 items),0)∧v=.tuple [sv,eI 0]∧E8 137 3 I7 (adds.map (S4 items)) st sv s')) ?_ (fun v s' hv=>⟨_,st,⟨rfl,rfl⟩,by
  rcases hv with ⟨e,h1,rfl,h2⟩ | ⟨sv,h1,rfl,h2⟩
  ·rw [h1];exact (A7.tuple (A7.cons (I5 3 _) (A7.keep _ _)) rfl).trans (h2.shift _)
  ·rw [h1];exact A7.tuple (A7.cons h2.shift (A7.keep _ _)) rfl⟩)
 refine F7 [] Tryz.func55 ?_
 refine B7 (fun h1=>?_) (fun h1=>?_)<;>rw [h1]<;>simp only [D7d,D7e] at h1
 ·rw [if_pos (.inl (by omega))] at hB;conv=>whnf
  exact .inl ⟨2,hB,rfl,F8.refl _⟩
 conv=>whnf
 refine B7 (fun h2=>?_) (fun h2=>?_)<;>rw [h2]<;>simp only [D7d,D7e] at h2
 ·rw [if_pos (.inr (by omega))] at hB;conv=>whnf
  exact .inl ⟨2,hB,rfl,F8.refl _⟩
 rw [if_neg (by omega)] at hB;conv=>whnf
 refine lp adds.length [0,1,6] (fun i vs t=>(∀ j,j<i→A5k (adds.getD j default)=false)∧vs=[A8 4 F2 items,A8 2 A8z adds,eI i]∧t=st) ?_ ?_
 ·conv=>whnf
  exact ⟨fun j hj=>absurd hj (by omega),rfl,rfl⟩
 rintro i vs t hi' ⟨hno,rfl,rfl⟩
 conv=>whnf
 cases h3:decide ((i:Int)<(adds.length:Int))
 case true =>
  have hi2:=D6 h3
  have hbad:A5k (adds.getD (i:Int).toNat default)=true→A2X items adds=([],2):=fun h=>by
   rw [if_pos (D8N.2 ⟨_,A5 hi2,h⟩)] at hB;exact hB
  conv=>whnf
  refine E9 ?_
  refine B7 (fun h4=>?_) (fun h4=>?_)<;>rw [h4]
  ·conv=>whnf
   exact .inl ⟨2,hbad (by unfold A5k;rw [h4];rfl),rfl,F8.refl _⟩
  conv=>whnf
  refine E9 ?_
  refine B7 (fun h5=>?_) (fun h5=>?_)<;>rw [h5]
  ·conv=>whnf
   exact .inl ⟨2,hbad (by unfold A5k;rw [h5,D7U]),rfl,F8.refl _⟩
  conv=>whnf
  refine G3 ?_
  exact nx hi2 ⟨G9 hno (show A5k (adds.getD (i:Int).toNat default)=false by unfold A5k;rw [h4,h5];rfl),by rw [B4 (by omega)],rfl⟩
 obtain rfl:=B9 h3 hi'
 rw [if_neg (by
  rw [D8h,D8q]
  intro x hx
  obtain ⟨j,hj,rfl⟩:=D2 hx
  rw [hno j hj];simp)] at hB
 conv=>whnf
 refine lp adds.length [0,1,7,8] (fun i vs s=>∃ sv,(∀ j,j<i→(fun x:Add=>decide (Q7 items x.sku<0)) (adds.getD j default)=false)∧vs=[A8 4 F2 items,A8 2 A8z adds,sv,eI i]∧E8 137 3 I7 ((adds.take i).map (S4 items)) t sv s) ?_ ?_
 ·conv=>whnf
  exact ⟨.emp,fun j hj=>absurd hj (by omega),rfl,E8.start _ _ _ _⟩
 rintro i vs s hi2 ⟨sv,hno2,rfl,hc⟩
 conv=>whnf
 cases h4:decide ((i:Int)<(adds.length:Int))
 case false =>
  obtain rfl:=B9 h4 hi2
  rw [D7m] at hc
  rw [if_neg (by
   rw [D8h,D8q]
   intro x hx
   obtain ⟨j,hj,rfl⟩:=D2 hx
   have:=hno2 j hj
   simp only at this
   rw [this];simp)] at hB
  conv=>whnf
  exact .inr ⟨sv,hB,rfl,hc⟩
 have hi3:=D6 h4
 have hF:=fun u=>B5y items (adds.getD (i:Int).toNat default).sku hi u
 have hln:((adds.take i).map (S4 items)).length=i:=by rw [D7i,D7n];omega
 have htk:(adds.take (i+1)).map (S4 items)=(adds.take i).map (S4 items)++[S4 items (adds.getD (i:Int).toNat default)]:=by rw [L6 hi3,D7M];rfl
 have hrng:=A9G (fun x:Ab.Item=>x.sku.toList==(adds.getD (i:Int).toNat default).sku.toList) items
 have hAL:S4 items (adds.getD (i:Int).toNat default)=⟨(adds.getD (i:Int).toNat default).sku,(adds.getD (i:Int).toNat default).qty,(items.getD (Q7 items (adds.getD (i:Int).toNat default).sku).toNat default).price⟩:=rfl
 have hno3:=fun h=>G9 (q:=fun j=>(fun x:Add=>decide (Q7 items x.sku<0)) (adds.getD j default)=false) hno2 h
 have hpos:(fun x:Add=>decide (Q7 items x.sku<0)) (adds.getD (i:Int).toNat default)=true→A2X items adds=([],7):=fun h=>by
  rw [if_pos (D8N.2 ⟨_,A5 hi3,h⟩)] at hB;exact hB
 have hf0:Q7 items (adds.getD (i:Int).toNat default).sku=Q7 items (adds.getD i default).sku:=rfl
 simp only at hpos hno3
 rw [←hf0] at hno3
 generalize hfv:Q7 items (adds.getD (i:Int).toNat default).sku=FV at hF hpos hno3 hAL
 have hrng2 : -1≤FV∧FV<items.length:=by rw [←hfv];exact hrng
 conv=>whnf
 refine E9 ?_
 refine I3 (hF _) ?_
 refine B7 (fun h5=>?_) (fun h5=>?_)<;>rw [h5]
 ·conv=>whnf
  exact .inl ⟨7,hpos h5,rfl,hc.sup⟩
 have h5':=D7g h5
 conv=>whnf
 refine ⟨[17,18],[],List.range 20,by kernel_rfl,?_⟩;conv=>whnf
 refine E9 ?_
 refine E9 ?_
 refine E9 ?_
 refine E8.app (y:=S4 items (adds.getD (i:Int).toNat default)) (q:=C5a) rfl rfl rfl rfl rfl (by rw [hAL];rfl) (by rw [hln];show (i+1) * 32≤140737488355328;omega) hc (fun sv' t' hc'=>?_);conv=>whnf
 refine G3 ?_
 exact nx hi3 ⟨sv',hno3 h5,by rw [B4 (by omega)],by rw [htk];exact hc'⟩
def A1u (x:Add):Add:=⟨A1o (A3f x.sku),1+B5 x.qty 9⟩
def J6 (l:List Add):List Add:=if l.length=0 then [⟨⟨#[97]⟩,2⟩] else (l.take 6).map A1u
theorem B9g (l:List Add) (st:St):S P 54 [A8 2 A8z l] st fun v st'=>v=A8 2 A8z (J6 l)∧st'=st:=by
 refine S.post (post:=fun v s=>(l.length≠0∧E8 57 2 A8z ((l.take 6).map A1u) st v s)∨(l.length=0∧s=st∧∃ F:Nat→AV,F 0=A8z ⟨⟨#[97]⟩,2⟩∧v=.arr 2 1 F)) ?_ (fun v s hv=>⟨_,st,⟨rfl,rfl⟩,by
  unfold J6
  rcases hv with ⟨h,hc⟩ | ⟨h,rfl,F,hF,rfl⟩
  ·rw [if_neg h];exact hc.shift
  ·rw [if_pos h]
   exact A7.arr fun i hi=>by
    have:i=0:=by omega
    subst this;exact hF⟩)
 refine F7 [] Tryz.func54 ?_
 refine lp (min l.length 6) [0,3,4] (fun i vs s=>∃ sv,vs=[A8 2 A8z l,sv,eI i]∧E8 57 2 A8z ((l.take i).map A1u) st sv s) ?_ ?_
 ·conv=>whnf
  exact ⟨.emp,rfl,E8.start _ _ _ _⟩
 rintro i vs s hi ⟨sv,rfl,hc⟩
 have hfin:i=min l.length 6→(l.take i).map A1u=(l.take 6).map A1u:=fun e=>by
  rcases Nat.le_total l.length 6 with h | h
  ·rw [show i=l.length by omega,D7m,D8T h]
  ·rw [show i=6 by omega]
 have hlen:((l.take i).map A1u).length=i:=by rw [D7i,D7n];omega
 conv=>whnf
 refine B7 (fun h1=>?_) (fun h1=>?_)<;>rw [h1]<;>simp only [D7d,D7e] at h1
 case' refine_1 =>
  conv=>whnf
  refine B7 (fun h2=>?_) (fun h2=>?_)<;>rw [h2]<;>simp only [D7d,D7e] at h2
 case' refine_1.refine_1 =>
  have hi':i<min l.length 6:=by omega
  have htk:(l.take (i+1)).map A1u=(l.take i).map A1u++[A1u (l.getD (i:Int).toNat default)]:=A1q (by omega) A1u
  have hm:=C7 (l.getD (i:Int).toNat default).qty (n:=9) (by decide)
  have hw:IntKind.i64.wrap (1+B5 (l.getD (i:Int).toNat default).qty 9)=1+B5 (l.getD (i:Int).toNat default).qty 9:=A4 (by omega) (by omega)
  conv=>whnf
  refine ⟨[16,17],[],List.range 19,by kernel_rfl,?_⟩;conv=>whnf
  refine E9 ?_
  refine cqW (B2n (l.getD (i:Int).toNat default).sku _) ?_
  refine cqW (C5z (A3f (l.getD (i:Int).toNat default).sku) _) ?_
  refine E9 ?_
  refine cqW (A1l (l.getD (i:Int).toNat default).qty 9 (by decide) (by decide) _) ?_
  refine E8.app (q:=r57) (y:=A1u (l.getD (i:Int).toNat default)) rfl rfl rfl rfl rfl (by show AV.agg [_,AV.int _ (IntKind.i64.wrap (1+B5 (l.getD (i:Int).toNat default).qty 9))]=_;rw [hw];rfl) (by rw [hlen];show (i+1) * 24≤140737488355328;omega) hc (fun sv' s' hc'=>?_);conv=>whnf
  refine G3 ?_
  exact nx hi' ⟨sv',by rw [B4 (by omega)],by rw [htk];exact hc'⟩
 all_goals
  have hend:=hfin (by omega)
  rw [hend] at hc hlen
  rcases hc with ⟨hn,rfl,rfl⟩ | ⟨hn,b,g,hb,rfl,rfl,hg⟩
 case' refine_1.refine_2.inl | refine_2.inl =>
  conv=>whnf
  exact .inr ⟨by omega,rfl,_,rfl,rfl⟩
 case' refine_1.refine_2.inr | refine_2.inr =>
  have hz:(((((l.take 6).map A1u).length:Nat):Int)==0)=false:=by rw [D7P];omega
  conv=>whnf
  rw [hz];conv=>whnf
  exact .inl ⟨by omega,.inr ⟨hn,b,g,hb,rfl,rfl,hg⟩⟩
end Go.Proofs.YtaapofnkmpiknaaGreat
namespace Go.Ab
open Go
theorem C2s {w:World} {st st':St} (h:∀ b,st b=none↔st' b=none):A3N w st=A3N w st':=by
 funext a
 unfold A3N
 cases h1:st a.block with
 | none=>rw [(h _).1 h1]
 | some x =>
  cases h2:st' a.block with
  | none=>rw [(h _).2 h2] at h1;cases h1
  | some y=>rfl
theorem A7.cellG {vs:List AV} {st st2:St} {a i:Nat} {y:L7} {sv v' w':AV} {pre post:List AV} (h:A7 [sv] st [v'] st2) (hy:st a=some y) (hy2:st2 a=some y) (hi:i<y.n)
  (hf:cellsOf (y.f i)=pre++sv::post) (hw:cellsOf w'=pre++v'::post) (h1:v'.one=true):A7 vs st vs (upd st2 a { y with f:=I6 y.f i w' }):=fun w cs hS hR=>by
 obtain ⟨ds,hok⟩:=hS a y hy
 obtain ⟨c,hc1,hc2⟩:=hok.cell i pre.length sv hi (by rw [hf];show (pre++sv::post)[pre.length]?=some sv;simp)
 obtain ⟨hS2,hR2,hE⟩:=h w #[c] hS ⟨rfl,fun k z c' hz hc'=>by
  cases k with
  | zero=>simp at hz hc';subst hz;subst hc';exact hc2
  | succ k=>simp at hz⟩
 have hv:K8 w st2 v' c:=hR2.2 0 v' c rfl rfl
 have e:A3N w (upd st2 a { y with f:=I6 y.f i w' })=A3N w st2:=C2s fun b=>by
  by_cases eb:b=a
  ·subst eb;rw [A0,hy2];constructor<;>(intro h0;cases h0)
  ·rw [B0 eb]
 have hrep:∀ v c,K8 w st2 v c→K8 w (upd st2 a { y with f:=I6 y.f i w' }) v c:=fun v c hv=>by
  show Rep (A3N w _) _ _ _
  rw [e];exact hv
 refine ⟨fun b x hb=>?_,⟨hR.1,fun k y c hy hc=>hrep _ _ (hE.rep (hR.2 k y c hy hc))⟩,⟨hE.os,hE.tape,hE.output,hE.size,fun b hb hn=>⟨(hE.blk b hb hn).1,?_⟩,hE.szm⟩⟩
 ·by_cases eb:b=a
  ·subst eb
   rw [A0] at hb;cases hb
   obtain ⟨ds2,hok2⟩:=hS2 b y hy2
   have hds:ds2=ds:=by
    have h3:=hok2.heap
    rw [hok.heap] at h3
    cases h3;rfl
   subst hds
   have hlen:=hok2.len i hi
   have hone:=hok2.one i hi
   rw [hf] at hlen hone
   refine ⟨ds2,hok2.heap,hok2.size,fun k hk=>?_,fun k hk=>?_,fun k m z hk hz=>?_⟩
   ·by_cases ek:k=i
    ·subst ek
     show (cellsOf (I6 y.f k _ k)).length=y.e
     unfold I6;rw [if_pos rfl,←hlen]
     show (cellsOf w').length=(pre++sv::post).length
     rw [hw]
     simp
    ·show (cellsOf (I6 y.f i _ k)).length=y.e
     unfold I6;rw [if_neg ek];exact hok2.len k hk
   ·by_cases ek:k=i
    ·subst ek
     show (cellsOf (I6 y.f k _ k)).all AV.one=true
     unfold I6;rw [if_pos rfl]
     have hone':(pre++sv::post).all AV.one=true:=hone
     show (cellsOf w').all AV.one=true
     rw [hw]
     simp only [List.all_append,List.all_cons,D7f] at hone' ⊢
     exact ⟨hone'.1,h1,hone'.2.2⟩
    ·show (cellsOf (I6 y.f i _ k)).all AV.one=true
     unfold I6;rw [if_neg ek];exact hok2.one k hk
   ·have hz:(cellsOf (I6 y.f i w' k))[m]?=some z:=hz
    unfold I6 at hz
    by_cases ek:k=i
    ·subst ek
     rw [if_pos rfl] at hz
     have hz:(pre++v'::post)[m]?=some z:=by rw [←hw];exact hz
     by_cases em:m=pre.length
     ·subst em
      simp at hz
      subst hz
      exact ⟨c,hc1,hrep _ _ hv⟩
     ·have e3:(pre++sv::post)[m]?=some z:=by
       rw [←hz]
       by_cases hm:m<pre.length
       ·rw [D7B hm,D7B hm]
       ·rw [D7A (by omega),D7A (by omega)]
        obtain ⟨q,hq⟩:∃ q,m - pre.length=q+1:=⟨m - pre.length - 1,by omega⟩
        rw [hq];rfl
      obtain ⟨c',k1,k2⟩:=hok2.cell k m z hk (by rw [hf];exact e3)
      exact ⟨c',k1,hrep _ _ k2⟩
    ·rw [if_neg ek] at hz
     obtain ⟨c',k1,k2⟩:=hok2.cell k m z hk hz
     exact ⟨c',k1,hrep _ _ k2⟩
  ·rw [B0 eb] at hb
   obtain ⟨ds2,hok2⟩:=hS2 b x hb
   exact ⟨ds2,hok2.heap,hok2.size,hok2.len,hok2.one,fun k m z hk hz=>by
    obtain ⟨c',k1,k2⟩:=hok2.cell k m z hk hz
    exact ⟨c',k1,hrep _ _ k2⟩⟩
 ·have:=(hE.blk b hb hn).2
  have eb:b≠a:=fun h=>by rw [h,hy] at hn;cases hn
  rw [B0 eb];exact this
theorem A7.cell {vs:List AV} {st st2:St} {a i:Nat} {y:L7} {sv v':AV} {pre post:List AV} (h:A7 [sv] st [v'] st2) (hy:st a=some y) (hy2:st2 a=some y) (hi:i<y.n)
  (hf:y.f i=.agg (pre++sv::post)) (h1:v'.one=true):A7 vs st vs (upd st2 a { y with f:=I6 y.f i (.agg (pre++v'::post)) }) :=
 A7.cellG h hy hy2 hi (by rw [hf];rfl) rfl h1
inductive At {α : Type}:List α→Nat→α→Prop
 | z {a : α} {l:List α}:At (a::l) 0 a
 | s {a b : α} {l:List α} {n:Nat} (h:At l n a):At (b::l) (n+1) a
def Has (s:St) (b:Nat) (y:L7):Prop:=∃ g,s b=some ⟨y.ty,y.e,y.n,g⟩∧∀ k,k<y.n→g k=y.f k
def C9 (st:St):List (Nat×L7)→St→Prop
 | [],s=>F8 st s
 | x::L,s=>(x.2.n=0∨(st x.1=none∧Has s x.1 x.2∧∀ j p,At L j p→p.2.n=0∨p.1≠x.1))∧C9 st L s
theorem C9.sup {st:St}:∀ {L:List (Nat×L7)} {s:St},C9 st L s→F8 st s
 | [],_,h=>h
 | _::_,_,h=>C9.sup h.2
theorem C9.get {st s:St}:∀ {L:List (Nat×L7)} {j:Nat} {p:Nat×L7},C9 st L s→At L j p→p.2.n=0∨(st p.1=none∧Has s p.1 p.2)
 | _,_,_,h,.z=>h.1.imp id fun h=>⟨h.1,h.2.1⟩
 | _,_,_,h,.s k=>C9.get h.2 k
theorem C9.other {st s:St} {L:List (Nat×L7)} (h:C9 st L s) {b:Nat} (hb:s b=none) (j:Nat) (p:Nat×L7) (hp:At L j p):p.2.n=0∨p.1≠b :=
 (h.get hp).imp id fun ⟨_,g,hg,_⟩ e=>by subst e;rw [hb] at hg;cases hg
theorem C9.frame {st s s':St}:∀ {L:List (Nat×L7)},C9 st L s→F8 st s'→(∀ j p,At L j p→p.2.n=0∨s' p.1=s p.1)→C9 st L s'
 | [],_,hs,_=>hs
 | x::L,h,hs,hf=>⟨h.1.elim .inl fun ⟨h1,⟨g,h2,h3⟩,h4⟩=>(hf 0 x .z).imp id fun e=>⟨h1,⟨g,e.trans h2,h3⟩,h4⟩,C9.frame h.2 hs fun j p hp=>hf (j+1) p (.s hp)⟩
theorem C9.new {st s:St} {L:List (Nat×L7)} (h:C9 st L s) {b:Nat} (hb:s b=none) (y:L7):C9 st ((b,y)::L) (upd s b y) :=
 ⟨.inr ⟨h.sup.none hb,⟨y.f,A0 ..,fun _ _=>rfl⟩,h.other hb⟩,h.frame (h.sup.upd hb) fun j p hp=>(h.other hb j p hp).imp id B0⟩
theorem C9.new' {st s s':St} {L:List (Nat×L7)} {b:Nat} {y:L7} (hs:upd s b y=s') (h:C9 st L s) (hb:s b=none):C9 st ((b,y)::L) s':=hs▸h.new hb y
theorem C9.soft {st s:St} {L:List (Nat×L7)} (h:C9 st L s) (b ty e:Nat) (f:Nat→AV):C9 st ((b,⟨ty,e,0,f⟩)::L) s:=⟨.inl rfl,h⟩
theorem At.of_set {α : Type}:∀ {L:List α} {j i:Nat} {p q : α},At (L.set j q) i p→p=q∨∃ i,At L i p
 | _::_,0,_,_,_,.z=>.inl rfl
 | _::_,0,_,_,_,.s k=>.inr ⟨_,.s k⟩
 | _::_,_+1,_,_,_,.z=>.inr ⟨_,.z⟩
 | _::_,_+1,_,_,_,.s k=>(At.of_set k).imp id fun ⟨_,h⟩=>⟨_,.s h⟩
theorem C9.chg {st s s':St} {b b':Nat} {y y':L7} (hS:F8 st s') (hst:st b'=none) (hH:Has s' b' y') (ho:∀ c x,(y.n=0∨c≠b)→s c=some x→s' c=some x∧c≠b') :
  ∀ {L:List (Nat×L7)} {j:Nat},C9 st L s→At L j (b,y)→C9 st (L.set j (b',y')) s'
 | _::L,_,h,.z=>by
  have ho':∀ j p,At L j p→p.2.n=0∨(s' p.1=s p.1∧p.1≠b'):=fun j p hp=>by
   rcases h.2.get hp with h0 | ⟨_,g,hg,_⟩
   ·exact .inl h0
   ·rcases h.1 with h1 | h1
    ·obtain ⟨e1,e2⟩:=ho _ _ (.inl h1) hg
     exact .inr ⟨e1.trans hg.symm,e2⟩
    ·rcases h1.2.2 j p hp with h0 | h0
     ·exact .inl h0
     ·obtain ⟨e1,e2⟩:=ho _ _ (.inr h0) hg
      exact .inr ⟨e1.trans hg.symm,e2⟩
  exact ⟨.inr ⟨hst,hH,fun j p hp=>(ho' j p hp).imp id And.right⟩,h.2.frame hS fun j p hp=>(ho' j p hp).imp id And.left⟩
 | x::L,_,h,.s k=>by
  refine ⟨?_,C9.chg hS hst hH ho h.2 k⟩
  rcases h.1 with h0 | ⟨h1,⟨g,h2,h3⟩,h4⟩
  ·exact .inl h0
  ·obtain ⟨e1,e2⟩:=ho _ _ ((h4 _ _ k).imp id Ne.symm) h2
   refine .inr ⟨h1,⟨g,e1,h3⟩,fun j p hp=>?_⟩
   rcases At.of_set hp with rfl | ⟨i,hi⟩
   ·exact .inr (Ne.symm e2)
   ·exact h4 i p hi
theorem C9.put {st s:St} {L:List (Nat×L7)} {j b:Nat} {y y':L7} (h:C9 st L s) (k:At L j (b,y)) (hn:0<y.n) {g:Nat→AV} (hg:∀ k,k<y'.n→g k=y'.f k):C9 st (L.set j (b,y')) (upd s b ⟨y'.ty,y'.e,y'.n,g⟩):=by
 have h1:=((h.get k).resolve_left (by show ¬ y.n=0;omega)).1
 exact C9.chg (h.sup.over h1) h1 ⟨g,A0 ..,hg⟩ (fun c x hc hx=>by
  have hc:=hc.resolve_left (by omega)
  exact ⟨(B0 hc).trans hx,hc⟩) h k
theorem At.of_erase {α : Type}:∀ {L:List α} {j i:Nat} {p : α},At (L.eraseIdx j) i p→∃ i,At L i p
 | _::_,0,_,_,k=>⟨_,.s k⟩
 | _::_,_+1,_,_,.z=>⟨_,.z⟩
 | _::_,_+1,_,_,.s k=>let ⟨_,h⟩:=At.of_erase k;⟨_,.s h⟩
theorem C9.drop {st s:St}:∀ {L:List (Nat×L7)} (j:Nat),C9 st L s→C9 st (L.eraseIdx j) s
 | [],_,h=>h
 | _::_,0,h=>h.2
 | _::_,j+1,h=>⟨h.1.imp id fun h=>⟨h.1,h.2.1,fun i p hp=>let ⟨_,hq⟩:=At.of_erase hp;h.2.2 _ p hq⟩,C9.drop j h.2⟩
theorem C9.apart {st s:St} {b:Nat} {y:L7} (hn:0<y.n):∀ {L:List (Nat×L7)} {j:Nat},C9 st L s→At L j (b,y)→∀ i p,At (L.eraseIdx j) i p→p.2.n=0∨p.1≠b
 | _::_,_,h,.z,i,p,hp=>(h.1.resolve_left (by show ¬ y.n=0;omega)).2.2 i p hp
 | _::_,_,h,.s k,_,_,.z=>h.1.imp id fun h=>((h.2.2 _ _ k).resolve_left (by show ¬ y.n=0;omega)).symm
 | _::_,_,h,.s k,_,_,.s hp=>C9.apart hn h.2 k _ _ hp
theorem C9.zero {st s:St} {b b':Nat} {y y':L7} (hy:y'.n=0):∀ {L:List (Nat×L7)} {j:Nat},C9 st L s→At L j (b,y)→C9 st (L.set j (b',y')) s
 | _::_,_,h,.z=>⟨.inl hy,h.2⟩
 | _::_,_,h,.s k=>⟨h.1.imp id fun h=>⟨h.1,h.2.1,fun i p hp=>by
   rcases At.of_set hp with rfl | ⟨i,hi⟩
   ·exact .inl hy
   ·exact h.2.2 i p hi⟩,C9.zero hy h.2 k⟩
theorem C9.as {st s:St} {L:List (Nat×L7)} {j b ty e n:Nat} {f:Nat→AV} (f':Nat→AV) (h:C9 st L s) (k:At L j (b,⟨ty,e,n,f⟩)) (hf:∀ k,k<n→f k=f' k):C9 st (L.set j (b,⟨ty,e,n,f'⟩)) s:=by
 rcases D8w n with h0 | h0
 ·exact C9.zero h0 h k
 ·obtain ⟨h1,g,hg,hh⟩:=(h.get k).resolve_left (by show ¬ n=0;omega)
  have:=h.put (y':=⟨ty,e,n,f'⟩) k h0 (g:=g) fun i hi=>(hh i hi).trans (hf i hi)
  rwa [upd_self' hg] at this
where
 upd_self' {st:St} {a:Nat} {x:L7} (h:st a=some x):upd st a x=st:=funext fun c=>by
  unfold upd;split
  ·rename_i e;subst e;exact h.symm
  ·rfl
def OV (e b n:Nat) (v:AV):Prop:=(n=0∧v=.emp)∨(0<n∧v=.own e b 0 n)
theorem OV.nil (e b:Nat):OV e b 0 .emp:=.inl ⟨rfl,rfl⟩
theorem OV.mk {e b n:Nat} (h:0<n):OV e b n (.own e b 0 n):=.inr ⟨h,rfl⟩
theorem OV.one {e b n:Nat} {v:AV} (h:OV e b n v):v.one=true:=by rcases h with ⟨_,rfl⟩ | ⟨_,rfl⟩<;>rfl
theorem OV.own {e b n:Nat} {v:AV} (h:OV e b n v) (hn:0<n):v=.own e b 0 n:=h.elim (fun h=>by omega) And.right
theorem D4C {rd:Addr→Option Value} {sz:Nat→Nat} {e b off:Nat} {c:Value} (f:Nat→AV) (h:Rep rd sz (.own e b off 0) c):Rep rd sz (.arr e 0 f) c:=by
 cases h with
 | own e b off n c hc hs=>exact .arr e 0 f _ c (fun _ _=>undef) (D7C _) (fun h=>absurd h (by omega)) (fun i hi=>absurd hi (by omega)) (fun i hi=>absurd hi (by omega)) (fun _ _ i j hi=>absurd hi (by omega)) (fun i j y hi=>absurd hi (by omega))
theorem C9.frzO {st s:St} {L:List (Nat×L7)} {j b ty e n:Nat} {f:Nat→AV} (h:C9 st L s) (k:At L j (b,⟨ty,e,n,f⟩)):∃ s',C9 st (L.eraseIdx j) s'∧A7 [.own e b 0 n] s [.arr e n f] s':=by
 rcases D8w n with h0 | h0
 ·subst h0
  exact ⟨s,h.drop j,Le.shift (fun rd sz c hr=>D4C f hr) s⟩
 ·obtain ⟨h1,g,hg,hh⟩:=(h.get k).resolve_left (by show ¬ n=0;omega)
  refine ⟨del s b,(h.drop j).frame (h.sup.del h1) fun i p hp=>(h.apart h0 k i p hp).imp id fun hne=>?_,P1 hg rfl (D7l _) hh⟩
  unfold del;rw [if_neg hne]
theorem C9.frz {st s:St} {L:List (Nat×L7)} {j b ty e n:Nat} {f:Nat→AV} {v:AV} (h:C9 st L s) (k:At L j (b,⟨ty,e,n,f⟩)) (hv:OV e b n v):∃ s',C9 st (L.eraseIdx j) s'∧A7 [v] s [.arr e n f] s':=by
 rcases hv with ⟨rfl,rfl⟩ | ⟨hn,rfl⟩
 ·exact ⟨s,h.drop j,I5 e f⟩
 ·exact h.frzO k
def LV (e b n:Nat) (v:AV):Prop:=(n=0∧(v=.emp∨v=.own e b 0 0))∨(0<n∧v=.own e b 0 n)
theorem LV.own {e b n:Nat} {v:AV} (h:LV e b n v) (hn:0<n):v=.own e b 0 n:=h.elim (fun h=>by omega) And.right
theorem LV.one {e b n:Nat} {v:AV} (h:LV e b n v):v.one=true:=by rcases h with ⟨_,rfl | rfl⟩ | ⟨_,rfl⟩<;>rfl
theorem LV.of (e b n:Nat):LV e b n (.own e b 0 n):=by
 rcases D8w n with rfl | h
 ·exact .inl ⟨rfl,.inr rfl⟩
 ·exact .inr ⟨h,rfl⟩
theorem OV.lv {e b n:Nat} {v:AV} (h:OV e b n v):LV e b n v:=h.imp (fun h=>⟨h.1,.inl h.2⟩) id
theorem C9.frzL {st s:St} {L:List (Nat×L7)} {j b ty e n:Nat} {f:Nat→AV} {v:AV} (h:C9 st L s) (k:At L j (b,⟨ty,e,n,f⟩)) (hv:LV e b n v):∃ s',C9 st (L.eraseIdx j) s'∧A7 [v] s [.arr e n f] s':=by
 rcases hv with ⟨rfl,rfl | rfl⟩ | ⟨hn,rfl⟩
 ·exact ⟨s,h.drop j,I5 e f⟩
 ·exact h.frzO k
 ·exact h.frzO k
theorem C9.fin {st s:St} {L:List (Nat×L7)} (h:C9 st L s) (vs:List AV):A7 vs s vs st:=h.sup.shift vs
def setL:List (Nat×L7)→Nat→Nat×L7→(List (Nat×L7)→Prop)→Prop
 | [],_,_,k=>k []
 | _::l,0,x,k=>k (x::l)
 | a::l,n+1,x,k=>setL l n x fun l'=>k (a::l')
theorem B1j:∀ (l:List (Nat×L7)) (n:Nat) (x:Nat×L7) (k:List (Nat×L7)→Prop),setL l n x k=k (l.set n x)
 | [],_,_,_=>rfl
 | _::_,0,_,_=>rfl
 | _::l,n+1,x,_=>B1j l n x _
def C4X (v:AV) (o:Nat) (us:List AV) (k:AV→Prop):Prop :=
 match v with
 | .agg cs=>(match Nat.ble (o+us.length) cs.length with | true=>A7n cs o us fun r=>k (.agg r) | false=>False)
 | _=>(match us with | []=>False | u::_=>k u)
theorem C0G {v:AV} {o:Nat} {us:List AV} {k:AV→Prop} (h:C4X v o us k):k (Q8 v o us):=by
 unfold C4X at h
 split at h
 ·split at h
  ·rename_i hb
   rw [A8c _ _ _ _ (by simpa using hb)] at h;exact h
  ·exact h.elim
 ·rename_i hv
  split at h
  ·exact h.elim
  ·unfold Q8
   split
   ·rename_i ds;exact absurd rfl (hv ds)
   ·exact h
theorem C9.has1 {st s:St} {L:List (Nat×L7)} {j b ty e:Nat} {f:Nat→AV} (h:C9 st L s) (hj:At L j (b,⟨ty,e,1,f⟩)):Has s b ⟨ty,e,1,f⟩:=((h.get hj).resolve_left (by show ¬ 1=0;omega)).2
theorem L8 {T:H5} {t:TypeId} {e b i o ty n j:Nat} {st s:St} {L:List (Nat×L7)} {k:KK} {r:C0} {f:Nat→AV} {v:AV} (h:C9 st L s) (hj:At L j (b,⟨ty,e,n,f⟩)) (hr:T t=some r) (hi:i<n) (hv:f i=v)
  (hk:A9m r (cellsOf v) o (fun y=>k y s)):C3h T t e b i o s k:=by
 obtain ⟨_,g,hg,hh⟩:=(h.get hj).resolve_left (by show ¬ n=0;omega)
 exact ldV hg hr hi ((hh i hi).trans hv) hk
theorem C9x {T:H5} {t:TypeId} {e b i o ty n j:Nat} {st s:St} {L:List (Nat×L7)} {k:KK} {r:C0} {f:Nat→AV} {u v:AV} (h:C9 st L s) (hj:At L j (b,⟨ty,e,n,f⟩)) (hr:T t=some r) (hi:i<n) (hv:f i=v)
  (hc:(Nat.blt 0 r.size&&Nat.beq (cellsOf u).length r.size&&(cellsOf u).all AV.one&&Nat.ble (o+r.size) e)=true)
  (hk:C4X v o (cellsOf u) fun w=>setL L j (b,⟨ty,e,n,I6 f i w⟩) fun L'=>∀ s',C9 st L' s'→k (.tuple []) s'):B8d T t e b i o u s k:=by
 obtain ⟨_,g,hg,hh⟩:=(h.get hj).resolve_left (by show ¬ n=0;omega)
 have hk:=C0G hk
 rw [B1j] at hk
 refine stV hg hr hi ((hh i hi).trans hv) hc (hk _ (h.put (y':=⟨ty,e,n,I6 f i _⟩) hj (by show 0<n;omega) fun m hm=>?_))
 by_cases hm':m=i
 ·subst hm';rw [A6];exact (A6 ..).symm
 ·rw [H7 hm',hh m hm];exact (H7 hm').symm
theorem F1 {T:H5} {t:TypeId} {e b o ty j:Nat} {st s:St} {L:List (Nat×L7)} {k:KK} {r:C0} {f:Nat→AV} {u v:AV} (h:C9 st L s) (hj:At L j (b,⟨ty,e,1,f⟩)) (hr:T t=some r) (hv:f 0=v)
  (hc:(Nat.blt 0 r.size&&Nat.beq (cellsOf u).length r.size&&(cellsOf u).all AV.one&&Nat.ble (o+r.size) e)=true)
  (hk:C4X v o (cellsOf u) fun w=>setL L j (b,⟨ty,e,1,fun _=>w⟩) fun L'=>∀ s',C9 st L' s'→k (.tuple []) s'):B8d T t e b 0 o u s k:=by
 obtain ⟨_,g,hg,hh⟩:=(h.get hj).resolve_left (by show ¬ 1=0;omega)
 have hk:=C0G hk
 rw [B1j] at hk
 refine stV hg hr (by show 0<1;omega) ((hh 0 (by show 0<1;omega)).trans hv) hc (hk _ (h.put (y':=⟨ty,e,1,fun _=>_⟩) hj (by show 0<1;omega) fun m hm=>?_))
 obtain rfl:m=0:=by have:m<1:=hm;omega
 exact A6 ..
theorem A2w {u:AV} (hu:u.one=true):cellsOf u=[u]:=by cases u<;>first | rfl | cases hu
theorem B1g {u:AV} (hu:u.one=true):[u].all AV.one=true:=by simp [hu]
theorem C7o {u:AV} (hu:u.one=true) {r:C0} {o e:Nat} (h1:r.size=1) (ho:o+1≤e):(Nat.blt 0 r.size&&Nat.beq (cellsOf u).length r.size&&(cellsOf u).all AV.one&&Nat.ble (o+r.size) e)=true:=by
 rw [A2w hu,h1]
 simp [hu,ho,Nat.blt]
theorem B8q {u:AV} {r:C0} {o e:Nat} (h1:(Nat.blt 0 r.size&&Nat.beq (cellsOf u).length r.size&&Nat.ble (o+r.size) e)=true) (h2:(cellsOf u).all AV.one=true):(Nat.blt 0 r.size&&Nat.beq (cellsOf u).length r.size&&(cellsOf u).all AV.one&&Nat.ble (o+r.size) e)=true:=by
 rw [h2,D7Q];exact h1
theorem C4K {T:H5} {t:TypeId} {e b o ty j:Nat} {st s:St} {L:List (Nat×L7)} {k:KK} {r:C0} {f:Nat→AV} {u v:AV} (h:C9 st L s) (hj:At L j (b,⟨ty,e,1,f⟩)) (hr:T t=some r) (hv:f 0=v) (h1:r.size=1) (hu:u.one=true) (ho:o+1≤e)
  (hk:C4X v o [u] fun w=>setL L j (b,⟨ty,e,1,fun _=>w⟩) fun L'=>∀ s',C9 st L' s'→k (.tuple []) s'):B8d T t e b 0 o u s k :=
 F1 h hj hr hv (C7o hu h1 ho) (by rw [A2w hu];exact hk)
theorem B5m {T:H5} {t:TypeId} {st s:St} {L:List (Nat×L7)} {k:KK} {r q:C0} {el e j b n m:Nat} {f g f':Nat→AV} {sv x:AV} (h:C9 st L s) (hv:OV e b n sv) (hj:At L j (b,⟨el,e,n,f⟩)) (hr:T t=some r) (hd:r.desc=.slice el) (hq:T el=some q) (he:q.size=e)
  (hz:(Nat.blt 0 q.size&&Nat.blt 0 q.bytes&&Nat.beq q.zero.cells.size q.size)=true) (hs:A0v e s x=some (m,g)) (hb:(n+m) * q.bytes≤140737488355328) (hf:∀ k,k<n+m→(if k<n then f k else g (k - n))=f' k)
  (hk:∀ sv' b',OV e b' (n+m) sv'→setL L j (b',⟨el,e,n+m,f'⟩) fun L'=>∀ s',C9 st L' s'→k sv' s'):A5V T t sv x s k:=by
 subst he
 have hk:∀ sv' b' s',OV q.size b' (n+m) sv'→C9 st (L.set j (b',⟨el,q.size,n+m,f'⟩)) s'→k sv' s':=fun sv' b' s' h1 h2=>by have:=hk sv' b' h1;rw [B1j] at this;exact this s' h2
 have h0:m=0→k sv s:=fun hm=>by
  subst hm
  exact hk sv b s hv (h.as f' hj fun i hi=>by have:=hf i hi;rwa [if_pos (show i<n from hi)] at this)
 rcases hv with ⟨rfl,rfl⟩ | ⟨hn,rfl⟩
 ·refine apE hr hd hq hz hs (by simpa using hb) h0 fun hm b' hb'=>?_
  refine hk _ b' _ (.inr ⟨by omega,by rw [D7o]⟩) (C9.chg (h.sup.upd hb') (h.sup.none hb') ⟨g,by rw [A0,D7o],fun i hi=>?_⟩ (fun c z _ hc=>?_) h hj)
  ·have:=hf i hi;rw [if_neg (by omega)] at this;simpa using this
  ·have hne:c≠b':=fun e=>by subst e;rw [hb'] at hc;cases hc
   exact ⟨(B0 hne).trans hc,hne⟩
 ·obtain ⟨hst,y,hy,hh⟩:=(h.get hj).resolve_left (by show ¬ n=0;omega)
  refine apO hr hd hq hz hs hy rfl rfl rfl hb h0 fun hm b' hb'=>?_
  have hst':st b'=none:=hb'.elim (fun e=>e▸hst) h.sup.none
  refine hk _ b' _ (.inr ⟨by omega,rfl⟩) (C9.chg ((h.sup.del hst).over hst') hst' ⟨_,A0 ..,fun i hi=>?_⟩ (fun c z hc hcz=>?_) h hj)
  ·show (if i<n then y i else _)=f' i
   rw [←hf i hi]
   split
   ·rename_i hin;exact hh i hin
   ·rfl
  ·have hcb:c≠b:=hc.resolve_left (by show ¬ n=0;omega)
   have hne:c≠b':=fun e=>by
    subst e
    rcases hb' with e | e
    ·exact hcb e
    ·rw [e] at hcz;cases hcz
   exact ⟨(B0 hne).trans (by unfold del;rw [if_neg hcb];exact hcz),hne⟩
theorem D4B {T:H5} {t:TypeId} {kk kk':IntKind} {n:Nat} {st s:St} {L:List (Nat×L7)} {k:KK} {r q:C0} {el e:Nat} (h:C9 st L s) (hr:T t=some r) (hd:r.desc=.slice el) (hq:T el=some q) (he:q.size=e)
  (hb:q.bytes * n≤281474976710656) (hn:n≤281474976710656) (hz:(Nat.beq q.zero.cells.size q.size&&(cellsOf (I1 q.zero)).all AV.one)=true)
  (hk:∀ b s',C9 st ((b,⟨el,e,n,fun _=>I1 q.zero⟩)::L) s'→k (.own e b 0 n) s'):xMk T t (.int kk (n:Int)) (.int kk' (n:Int)) s k:=by
 subst he
 exact mkO hr hd hq hb hn hz fun b hb'=>hk b _ (h.new hb' _)
theorem C9.up {st s s':St} {L:List (Nat×L7)} (h:C9 st L s) (hS:F8 s s'):C9 st L s':=h.frame (h.sup.trans hS) fun j p hp=>(h.get hp).imp id fun ⟨_,g,hg,_⟩=>(hS _ _ hg).trans hg.symm
theorem C9.got {st s s':St} {L:List (Nat×L7)} {b:Nat} {y:L7} (h:C9 st L s) (hb:s b=none) (hS:F8 s s') (hH:Has s' b y):C9 st ((b,y)::L) s':=⟨.inr ⟨h.sup.none hb,hH,h.other hb⟩,h.up hS⟩
theorem At.of_append {α : Type}:∀ {L M:List α} {j:Nat} {p : α},At (L++M) j p→(∃ i,At L i p)∨∃ i,At M i p
 | [],_,_,_,h=>.inr ⟨_,h⟩
 | _::_,_,_,_,.z=>.inl ⟨_,.z⟩
 | _::_,_,_,_,.s h=>(At.of_append h).imp (fun ⟨_,h⟩=>⟨_,.s h⟩) id
theorem C9.trans {st s s':St} {L:List (Nat×L7)} (h:C9 st L s):∀ {M:List (Nat×L7)},C9 s M s'→C9 st (M++L) s'
 | [],k=>h.up k
 | x::M,k=>by
  refine ⟨k.1.imp id fun ⟨h1,h2,h3⟩=>⟨h.sup.none h1,h2,fun j p hp=>?_⟩,h.trans k.2⟩
  rcases At.of_append hp with ⟨i,hi⟩ | ⟨i,hi⟩
  ·exact h3 i p hi
  ·exact h.other h1 i p hi
theorem A0u (st:St):C9 st [] st:=F8.refl st
theorem C9.has {st s:St} {L:List (Nat×L7)} {j b:Nat} {y:L7} (h:C9 st L s) (hj:At L j (b,y)) (hn:0<y.n):Has s b y:=((h.get hj).resolve_left (by show ¬ y.n=0;omega)).2
theorem quT {v:AV} {s:St} {Q:AV→St→Prop} {K:AV→(St→Prop)→Prop} (hQ:∀ s',Q v s') (hk:K v fun _=>True):∃ (v:AV) (C:St→Prop),C s∧(∀ s',C s'→Q v s')∧K v C:=⟨v,_,trivial,fun s' _=>hQ s',hk⟩
theorem quL {v:AV} {s:St} {Q:AV→St→Prop} {K:AV→(St→Prop)→Prop} {b:Nat} {y:L7} (hC:Has s b y) (hQ:∀ s',Has s' b y→Q v s') (hk:K v fun u=>Has u b y):∃ (v:AV) (C:St→Prop),C s∧(∀ s',C s'→Q v s')∧K v C:=⟨v,_,hC,hQ,hk⟩
theorem X4 {T:H5} {t:TypeId} {e b i o ty n:Nat} {s:St} {k:KK} {r:C0} {f:Nat→AV} {x:AV} (h:Has s b ⟨ty,e,n,f⟩) (hr:T t=some r) (hi:i<n) (hv:f i=x) (hk:A9m r (cellsOf x) o (fun y=>k y s)):C3h T t e b i o s k:=by
 obtain ⟨g,hg,hh⟩:=h
 exact ldV hg hr hi ((hh i hi).trans hv) hk
end Go.Ab
namespace Go.Proofs.YtaapofnkmpiknaaGreat
open Go Go.Ab
attribute [local irreducible] upd del
abbrev A9A (l:List A2H):Nat→AV:=fun k=>A1L (l.getD k default)
theorem B2o {l:List A2H} (h:l.length=0):S6 l=[⟨⟨[],[]⟩,2⟩]:=if_pos h
theorem B2p {l:List A2H} (h:l.length≠0):S6 l=(l.take 3).map W8:=if_neg h
theorem C7u {l:List A2H} {i:Nat} (hi:i<min l.length 3):((l.take 3).map W8).getD i default=W8 (l.getD i default):=by
 rw [D7c,D8a,D7r (by omega),D7k (by omega),D7c,D7k (by omega)];rfl
set_option maxHeartbeats 80000000 in
theorem B7i (p:B1) (id:Int) (st:St):S P 156 [B8 p,eI id] st fun v st'=>v=B8 (A3x p id)∧st'=st:=by
 refine S.post (post:=fun v s=>∃ W t,A7 [v] s [.agg W] t∧F8 st t∧T3 W (cellsOf (B8 (A3x p id)))) ?_ (fun v s ⟨W,t,h1,h2,h3⟩=>⟨_,st,⟨rfl,rfl⟩,h1.trans ((Le.shift (Le.agg h3) _).trans (h2.shift _))⟩)
 have hScope:=fun s=>B7o p.scope s
 have hId:=fun s=>D4y id s
 have hPr:=fun s=>A1l p.prio 5 (by decide) (by decide) s
 have hKd:=fun s=>A1l (IntKind.i64.wrap (p.kind - 1)) 7 (by decide) (by decide) s
 have hkm:=C7 (IntKind.i64.wrap (p.kind - 1)) (n:=7) (by decide)
 have hkw:IntKind.i64.wrap (1+B5 (IntKind.i64.wrap (p.kind - 1)) 7)=A3K p:=A4 (by omega) (by omega)
 have hK:=A6y p
 have hP:A3x p id=X3 p id (A3K p):=rfl
 rw [hP]
 generalize A3K p=K at hK hkw ⊢
 clear hP
 have cm:=fun v (n:Int) (h0:0<n) (h1:n≤9223372036854775807) s=>A1l v n h0 h1 s
 have c6:=fun v (n:Int) (h0:0<n) (h1:n≤9223372036854775807) s=>W6 v n h0 h1 s
 have wr:IntKind.i64.wrap (1+B5 p.rate 10000)=1+B5 p.rate 10000:=by have:=C7 p.rate (n:=10000) (by decide);exact A4 (by omega) (by omega)
 have wa:IntKind.i64.wrap (1+B5 p.amount 900)=1+B5 p.amount 900:=by have:=C7 p.amount (n:=900) (by decide);exact A4 (by omega) (by omega)
 have wb:IntKind.i64.wrap (1+B5 p.buy 3)=1+B5 p.buy 3:=by have:=C7 p.buy (n:=3) (by decide);exact A4 (by omega) (by omega)
 have wg:IntKind.i64.wrap (1+B5 p.get 2)=1+B5 p.get 2:=by have:=C7 p.get (n:=2) (by decide);exact A4 (by omega) (by omega)
 have hT5:=fun s=>B0w p.tiers 5000 (by decide) (by decide) s
 have hT6:=fun s=>B0w p.tiers 5 (by decide) (by decide) s
 refine A0o [2] A4i mixed Tryz.func156 (by rfl) rfl rfl rfl ?_;conv=>whnf
 intro b4 hb4
 generalize hs:(upd st b4 _:St)=w
 have h:=C9.new' hs (A0u st) hb4
 clear hs hb4
 conv=>whnf
 refine .inl ⟨[16,17],[1,3,5,8,9,11,13,14],List.range 18,by kernel_rfl,?_⟩
 repeat' ((conv=>whnf);first | refine ⟨_,fun s _=>⟨rfl,rfl⟩,?_⟩ | refine ⟨_,fun s _=>F3 (hId s),?_⟩ | refine ⟨_,fun s _=>F3 (hKd s),?_⟩ | refine ⟨_,fun s _=>F3 (hPr s),?_⟩ | refine ⟨_,fun s _=>F3 (hScope s),?_⟩ | fail)
 conv=>whnf
 intro b5 hb5
 generalize hs:(upd w b5 _:St)=w5
 have h:=C9.new' hs h hb5
 clear hs hb5
 conv=>whnf
 refine F1 h .z rfl rfl (by rfl) ?_;conv=>whnf
 rw [hkw]
 intro w h;conv=>whnf
 refine I3 (B2n _ _) ?_
 refine I3 (cm _ 3 (by decide) (by decide) _) ?_
 cases hg:(B5 (A3f p.group) 3==1)
 case' true =>
  have hG:A0V p=(⟨#[103]⟩:C8)++B2W ([]++[IntKind.u8.wrap (48+IntKind.u8.wrap (B5 p.group.size 2))]):=by rw [B3g];exact if_pos (by simpa using hg)
  conv=>whnf
  refine I3 (cm _ 2 (by decide) (by decide) _) ?_
  refine F1 h .z rfl rfl (by rfl) ?_;conv=>whnf
  intro w h
 case' false=>have hG:A0V p=(⟨#[]⟩:C8):=if_neg (by simpa using hg)
 all_goals
  conv=>whnf
  refine I3 (B2n _ _) ?_
  refine I3 (cm _ 3 (by decide) (by decide) _) ?_
  cases hcd:(B5 (A3f p.code) 3==1)
  case' true =>
   have hC:A2f p=A5K p.code.size:=if_pos (by simpa using hcd)
   conv=>whnf
   refine I3 (C3R _ _) ?_
   refine F1 h .z rfl rfl (by rfl) ?_;conv=>whnf
   intro w h
  case' false=>have hC:A2f p=(⟨#[]⟩:C8):=if_neg (by simpa using hcd)
  all_goals
   conv=>whnf
   refine I3 (c6 _ 3 (by decide) (by decide) _) ?_
   cases hl:(B5 p.least 3==1)
   case' true =>
    have hL:A1N p=B5 p.least 9000:=if_pos (by simpa using hl)
    conv=>whnf
    refine I3 (c6 _ 9000 (by decide) (by decide) _) ?_
    refine F1 h .z rfl rfl (by rfl) ?_;conv=>whnf
    intro w h
   case' false=>have hL:A1N p=0:=if_neg (by simpa using hl)
   all_goals
    conv=>whnf
    refine L8 h .z rfl Nat.one_pos rfl ?_
    by_cases h4:K=4
    case' neg =>
     rcases (show K=1∨K=2∨K=3∨K=5∨K=6∨K=7 by omega) with rfl | rfl | rfl | rfl | rfl | rfl
     all_goals
      repeat' ((conv=>whnf);first | refine B2 (c6 _ 10000 (by decide) (by decide) _) ?_ | refine B2 (c6 _ 900 (by decide) (by decide) _) ?_ | refine B2 (hT5 _) ?_ | refine B2 (hT6 _) ?_ | rw [wr] | rw [wa] | refine .inl ⟨[13,15,17],[],List.range 18,by kernel_rfl,?_⟩ | refine ⟨_,F3 (c6 _ 10000 (by decide) (by decide) _),?_⟩ | refine ⟨_,F3 (cm _ 3 (by decide) (by decide) _),?_⟩ | refine ⟨_,F3 (cm _ 2 (by decide) (by decide) _),?_⟩ | rw [wb] | rw [wg] | refine F1 h .z rfl rfl (by rfl) ?_ | refine F1 h (.s .z) rfl rfl (by rfl) ?_ | intro w h | refine L8 h .z rfl Nat.one_pos rfl ?_ | refine L8 h (.s .z) rfl Nat.one_pos rfl ?_ | fail)
      conv=>whnf
      refine ⟨_,_,A7.keep _ _,h.sup,?_⟩
      unfold X3
      rw [hG,hC,hL]
      repeat' first | exact T3.nil | refine T3.cons ?_ ?_ | exact Le.refl _ | exact Le.emp _ _
    case pos =>
     subst h4
     repeat' ((conv=>whnf);first | refine B2 (c6 _ 3000 (by decide) (by decide) _) ?_ | refine F1 h .z rfl rfl (by rfl) ?_ | intro w h | fail)
     conv=>whnf
     obtain ⟨g0,c0,l0,hg0,hc0,hl0,h⟩:∃ g0 c0 l0,A0V p=g0∧A2f p=c0∧A1N p=l0∧C9 st [(b5,⟨206,15,1,fun _=>.agg [eS (idN id),eI 4,eI (B5 p.prio 5),eS g0,eS c0,eB p.closes,.emp,.emp,eI l0,eI 0,eI (B5 p.amount 3000),eI 0,eI 0,.emp,.emp]⟩),(b4,⟨206,15,1,fun _=>I1 C5b.zero⟩)] w:=⟨_,_,_,hG,hC,hL,h⟩
     have h:=h.soft 0 259 3 (A9A ((p.parts.take 3).map W8))
     refine lp (min p.parts.length 3) [2,4,5,6] (fun i vs s=>∃ sv bp,vs=[.fptr (B8 p) 0,.optr 15 b4 0 0,.optr 15 b5 0 0,eI i]∧OV 3 bp i sv∧C9 st [(bp,⟨259,3,i,A9A ((p.parts.take 3).map W8)⟩),(b5,⟨206,15,1,fun _=>.agg [eS (idN id),eI 4,eI (B5 p.prio 5),eS g0,eS c0,eB p.closes,.emp,.emp,eI l0,eI 0,eI (B5 p.amount 3000),eI 0,eI 0,sv,.emp]⟩),(b4,⟨206,15,1,fun _=>I1 C5b.zero⟩)] s) ?_ ?_
     ·conv=>whnf
      exact ⟨.emp,0,rfl,OV.nil 3 0,h⟩
     clear h
     rintro i vs s hi ⟨sv,bp,rfl,hsv,h⟩
     conv=>whnf
     by_cases hi':i<min p.parts.length 3
     case pos =>
      rw [show decide ((i:Int)<(p.parts.length:Int))=true from D7D (by omega)];conv=>whnf
      rw [show decide ((i:Int)<3)=true from D7D (by omega)]
      have hsc2:=fun s=>B7o (p.parts.getD (i:Int).toNat default).scope s
      have hpa:=C7u hi'
      have hm2:=C7 (p.parts.getD (i:Int).toNat default).count (n:=2) (by decide)
      have wc:IntKind.i64.wrap (1+B5 (p.parts.getD (i:Int).toNat default).count 2)=1+B5 (p.parts.getD (i:Int).toNat default).count 2:=A4 (by omega) (by omega)
      conv=>whnf
      refine .inl ⟨[19,21],[15],List.range 22,by kernel_rfl,?_⟩
      repeat' ((conv=>whnf);first | refine L8 h (.s .z) rfl Nat.one_pos rfl ?_ | refine ⟨rfl,⟨by omega,by omega⟩,?_⟩ | refine ⟨_,F3 (hsc2 _),?_⟩ | refine ⟨_,fun s _=>F3 (A1l _ 2 (by decide) (by decide) s),?_⟩ | rw [wc] | refine ⟨_,⟨rfl,rfl⟩,?_⟩ | fail)
      conv=>whnf
      refine B5m (q:=C9R) (m:=1) (g:=fun j=>[A1L (W8 (p.parts.getD (i:Int).toNat default))].getD j AV.junk) h hsv .z rfl rfl rfl rfl (by rfl) rfl (f':=A9A ((p.parts.take 3).map W8)) (by show (i+1) * 56≤140737488355328;omega) (fun k hk=>?_) (fun sv bp hsv=>?_)
      ·by_cases hk2:k<i
       ·rw [if_pos hk2]
       ·obtain rfl:k=i:=by omega
        rw [if_neg hk2,Nat.sub_self]
        show _=A1L _
        rw [hpa];rfl
      conv=>whnf
      intro w h;conv=>whnf
      refine C4K h (.s .z) rfl rfl rfl hsv.one (by decide) ?_;conv=>whnf
      intro w h;conv=>whnf
      refine G3 ?_
      exact nx hi' ⟨sv,bp,by rw [B4 (by omega)],hsv,h⟩
     obtain hie:i=min p.parts.length 3:=by omega
     have hx:decide ((i:Int)<(p.parts.length:Int))=false∨(decide ((i:Int)<(p.parts.length:Int))=true∧decide ((i:Int)<3)=false):=by
      by_cases h1:(i:Int)<(p.parts.length:Int)
      ·exact .inr ⟨D7D h1,D7j (by omega)⟩
      ·exact .inl (D7j h1)
     rcases hsv with ⟨h0,rfl⟩ | ⟨h0,rfl⟩
     ·have hPP:=B2o (l:=p.parts) (by omega)
      rcases hx with h1 | ⟨h1,h2⟩<;>rw [h1]
      all_goals
       repeat' ((conv=>whnf);first | rw [h2] | refine L8 h (.s .z) rfl Nat.one_pos rfl ?_ | refine L8 h (.s (.s .z)) rfl Nat.one_pos rfl ?_ | refine F1 h (.s .z) rfl rfl (by rfl) ?_ | refine F1 h (.s (.s .z)) rfl rfl (by rfl) ?_ | intro w h | fail)
       conv=>whnf
       refine ⟨_,_,A7.keep _ _,h.sup,?_⟩
       unfold X3
       rw [hg0,hc0,hl0,hPP]
       repeat' first | exact T3.nil | refine T3.cons ?_ ?_ | exact Le.refl _ | exact Le.emp _ _ | refine Le.arr1 ?_ rfl
     ·have hAP:A8 3 A1L (S6 p.parts)=.arr 3 i (A9A ((p.parts.take 3).map W8)):=by unfold A8;rw [B2p (l:=p.parts) (by omega),show ((p.parts.take 3).map W8).length=i by rw [D7i,D7n];omega]
      have hLe:Le (.arr 3 i (A9A ((p.parts.take 3).map W8))) (A8 3 A1L (S6 p.parts)):=by rw [hAP];exact Le.refl _
      have hz:((i:Int)==0)=false:=by rw [D7P];omega
      rcases hx with h1 | ⟨h1,h2⟩<;>rw [h1]
      all_goals
       repeat' ((conv=>whnf);first | rw [h2] | rw [hz] | refine L8 h (.s .z) rfl Nat.one_pos rfl ?_ | refine L8 h (.s (.s .z)) rfl Nat.one_pos rfl ?_ | refine F1 h (.s (.s .z)) rfl rfl (by rfl) ?_ | intro w h | fail)
       conv=>whnf
       obtain ⟨t,h3,k3⟩:=h.frzO .z
       refine ⟨[eS (idN id),eI 4,eI (B5 p.prio 5),eS g0,eS c0,eB p.closes,.emp,.emp,eI l0,eI 0,eI (B5 p.amount 3000),eI 0,eI 0,.arr 3 i (A9A ((p.parts.take 3).map W8)),.emp],t,A7.agg ?_,h3.sup,?_⟩
       ·iterate 13 refine A7.cons (A7.keep [_] _) ?_
        exact A7.cons k3 (A7.keep _ _)
       ·unfold X3
        rw [hg0,hc0,hl0]
        repeat' first | exact T3.nil | refine T3.cons ?_ ?_ | exact Le.refl _ | exact Le.emp _ _ | exact hLe
theorem C6Y (i:Nat) (h:i<6):Int.tmod (IntKind.i64.wrap (IntKind.i64.wrap ((i:Int) * 7)+3)) 10=C1E i:=by
 rw [A4 (x:=(i:Int) * 7) (by omega) (by omega),A4 (by omega) (by omega),D8M (by omega)];rfl
theorem B5u (l:List B1) (st:St):S P 101 [A8 15 B8 l] st fun v st'=>v=A8 15 B8 (N9 l)∧st'=st:=by
 refine A0y (ty:=206) ?_
 have hat:∀ i,i<6→Z7 l i=A3x (l.getD (i:Int).toNat default) (Int.tmod (IntKind.i64.wrap (IntKind.i64.wrap ((i:Int) * 7)+3)) 10):=fun i hi=>by rw [C6Y i hi];rfl
 have hPl:N9 l=(List.range (min l.length 6)).map (Z7 l):=rfl
 rw [hPl]
 have hnext:=A6q (Z7 l)
 have hS:=fun i=>B7i (l.getD (i:Nat) default)
 generalize Z7 l=F at hat hnext ⊢
 refine F7 [] Tryz.func101 ?_
 refine lp (min l.length 6) [0,3,4] (fun i vs s=>∃ sv,vs=[A8 15 B8 l,sv,eI i]∧E8 206 15 B8 ((List.range i).map F) st sv s) ?_ ?_
 ·conv=>whnf
  exact ⟨.emp,rfl,E8.start _ _ _ _⟩
 ·rintro i vs s hi ⟨sv,rfl,hc⟩
  have hfin:i=min l.length 6→E8 206 15 B8 ((List.range (min l.length 6)).map F) st sv s:=fun e=>by rw [←e];exact hc
  have hlen:((List.range i).map F).length=i:=by rw [D7i,D7F]
  conv=>whnf
  refine B7 (fun h1=>?_) (fun h1=>?_)<;>rw [h1]<;>simp only [D7d,D7e] at h1
  ·conv=>whnf
   refine B7 (fun h2=>?_) (fun h2=>?_)<;>rw [h2]<;>simp only [D7d,D7e] at h2
   ·have hi':i<min l.length 6:=by omega
    have hF:=hat i (by omega)
    conv=>whnf
    refine E9 ?_
    refine B2 (hS (i:Int).toNat _ _) ?_
    generalize hid:Int.tmod (IntKind.i64.wrap (IntKind.i64.wrap ((i:Int) * 7)+3)) 10=ID at hF
    generalize A3x (l.getD (i:Int).toNat default) ID=Y at hF
    conv=>whnf
    refine E8.app (y:=Y) (q:=C5b) rfl rfl rfl rfl rfl (by rfl) (by rw [hlen];show (i+1) * 208≤140737488355328;omega) hc (fun sv' t' hc'=>?_);conv=>whnf
    refine G3 ?_
    refine nx hi' ⟨sv',by rw [B4 (by omega)],?_⟩
    rw [hnext,hF];exact hc'
   ·conv=>whnf
    exact hfin (by omega)
  ·conv=>whnf
   exact hfin (by omega)
abbrev A7O (l:List H4):Nat→AV:=fun i=>A1i (l.getD i default)
def A2T (zs:Nat→List H4) (sv:Nat→AV):Nat→St→St→Prop
 | 0=>F8
 | k+1=>fun s t=>ROut (A2T zs sv k) 209 2 (A7O (zs k)) (zs k).length s (sv k) t
theorem A2J (zs:Nat→List H4) (sv:Nat→AV):∀ k,K7 (A2T zs sv k)
 | 0=>Q1
 | k+1=>W0 (A2J zs sv k) _ _ _ _ _
theorem B0n {zs zs':Nat→List H4} {sv sv':Nat→AV}:∀ (k:Nat) {s t:St},(∀ j,j<k→zs j=zs' j∧sv j=sv' j)→A2T zs sv k s t→A2T zs' sv' k s t
 | 0,s,t,_,h=>h
 | k+1,s,t,he,h=>by
  obtain ⟨s0,h1,h2⟩:=h
  obtain ⟨e1,e2⟩:=he k (D9J k)
  rw [e1,e2] at h1
  exact ⟨s0,h1,B0n k (fun j hj=>he j (Nat.lt_succ_of_lt hj)) h2⟩
theorem A8B {bz n ty:Nat} {zs:Nat→List H4} {sv:Nat→AV} {nm:Nat→C8} {r1 r2:Nat→Int}:∀ (k:Nat) (s t:St) (g:Nat→AV),k≤n→A2T zs sv k s t→s bz=some ⟨ty,4,n,g⟩→(∀ j,j<k→g j=.agg [eS (nm j),sv j,eI (r1 j),eI (r2 j)]) →
  ∃ t' g',(∀ vs,A7 vs t vs t')∧F8 (upd s bz ⟨ty,4,n,g'⟩) t'∧(∀ j,j<k→g' j=.agg [eS (nm j),A8 2 A1i (zs j),eI (r1 j),eI (r2 j)])∧∀ j,k≤j→g' j=g j
 | 0,s,t,g,hk,h,hs,hg=>by
  refine ⟨t,g,fun vs=>A7.refl _ _,fun b x hb=>?_,fun j hj=>absurd hj (by omega),fun j _=>rfl⟩
  by_cases e:b=bz
  ·subst e;rw [A0] at hb;cases hb;exact h _ _ hs
  ·rw [B0 e] at hb;exact h _ _ hb
 | k+1,s,t,g,hk,h,hs,hg=>by
  have hB:=A2J zs sv k
  have ht:t bz=some ⟨ty,4,n,g⟩:=(A2J zs sv (k+1)).sup h _ _ hs
  obtain ⟨t1,hsh,hc⟩:=ROut.shift hB h
  have ht1:t1 bz=some ⟨ty,4,n,g⟩:=hB.sup hc _ _ hs
  have hcell:=fun vs=>A7.cell (vs:=vs) (pre:=[eS (nm k)]) (post:=[eI (r1 k),eI (r2 k)]) hsh ht ht1 (show k<n by omega) (hg k (by omega)) rfl
  have hc':=hB.write (y':=⟨ty,4,n,I6 g k (.agg ([eS (nm k)]++AV.arr 2 (zs k).length (A7O (zs k))::[eI (r1 k),eI (r2 k)]))⟩) hc hs
  obtain ⟨t',g',k1,k2,k3,k4⟩:=A8B (nm:=nm) (r1:=r1) (r2:=r2) k _ _ _ (by omega) hc' (A0 ..) (fun j hj=>by rw [H7 (by omega)];exact hg j (by omega))
  rw [C5] at k2
  refine ⟨t',g',fun vs=>(hcell vs).trans (k1 vs),k2,fun j hj=>?_,fun j hj=>?_⟩
  ·by_cases e:j=k
   ·subst e;rw [k4 j (D7l _),A6];rfl
   ·exact k3 j (by omega)
  ·rw [k4 j (by omega),H7 (by omega)]
theorem C6f (k:Nat) (h:k<3):(⟨#[122]⟩:C8)++B2W ([]++[IntKind.u8.wrap (48+IntKind.u8.wrap (k:Int))])=Q9 k:=by rw [B3g];rfl
theorem B7k {l:List K9} {k:Nat} (h:k<l.length):D7 l k=⟨Q9 k,U4 (l.getD k default).rates,B5 (l.getD k default).rest 3000,B5 (l.getD k default).ship 3000⟩:=if_pos h
theorem B5v {l:List K9} {k:Nat} (h:¬ k<l.length):D7 l k=⟨Q9 k,[],1000 * k,500 * k⟩:=if_neg h
theorem C7I {l:List H4} {c:Nat} (hc:c<min 3 l.length):(U4 l).getD c default=A8S l c:=by
 unfold U4
 rw [D7c,D8a,D8C hc];rfl
abbrev B3n (z:K9) (rv:AV):AV:=.agg [eS z.name,rv,eI z.rest,eI z.ship]
def ZO (t:Tax) (k:Nat) (base:St) (zv:AV) (s:St):Prop :=
 ∃ (sv g:Nat→AV),ROut (A2T (fun j=>(D7 t.zones j).rates) sv k) 103 4 g k base zv s∧∀ j,j<k→g j=B3n (D7 t.zones j) (sv j)
theorem ZO.end {t:Tax} {base s:St} {zv:AV} (h:ZO t 3 base zv s):∃ t',A7 [zv] s [A8 4 S9 (L9 t).zones] t'∧F8 base t':=by
 obtain ⟨sv,g,⟨s1,hcol,hch⟩,hg⟩:=h
 rcases hcol with ⟨h0,_,_⟩ | ⟨h0,bz,g0,hbz,rfl,rfl,hgg⟩
 ·cases h0
 obtain ⟨t',g',hsh,hsup,hg',_⟩:=A8B (nm:=fun j=>(D7 t.zones j).name) (r1:=fun j=>(D7 t.zones j).rest) (r2:=fun j=>(D7 t.zones j).ship) 3 _ s g0 (D7l _) hch (A0 ..) (fun j hj=>by rw [hgg j hj,hg j hj])
 rw [C5] at hsup
 refine ⟨del t' bz,(hsh _).trans (P1 (hsup bz _ (A0 ..)) rfl (D7l _) fun i hi=>?_),?_⟩
 ·show g' i=S9 ((L9 t).zones.getD i default)
  rw [hg' i hi]
  have:(L9 t).zones.getD i default=D7 t.zones i:=by
   show ((List.range 3).map (D7 t.zones)).getD i default=_
   rw [D7c,D8a,D8C hi];rfl
  rw [this];rfl
 ·exact F8.del (((F8.refl base).upd hbz).trans hsup) hbz
theorem ZO.next {t:Tax} {k:Nat} {base s1 s:St} {zv rv:AV} {sv g:Nat→AV} (hcol:Col 103 4 g base k zv s1) (hR:ROut (A2T (fun j=>(D7 t.zones j).rates) sv k) 209 2 (A7O (D7 t.zones k).rates) (D7 t.zones k).rates.length s1 rv s) (hg:∀ j,j<k→g j=B3n (D7 t.zones j) (sv j)) :
  ∃ sv' g',ROut (A2T (fun j=>(D7 t.zones j).rates) sv' (k+1)) 103 4 g' k base zv s∧sv' k=rv∧(∀ j,j<k+1→g' j=B3n (D7 t.zones j) (sv' j)):=by
 have hsv:∀ j,j<k→sv j=(fun j=>if j=k then rv else sv j) j:=fun j hj=>by simp only;rw [if_neg (by omega)]
 refine ⟨fun j=>if j=k then rv else sv j,fun j=>B3n (D7 t.zones j) (if j=k then rv else sv j),⟨s1,Col.congr hcol fun j hj=>by rw [hg j hj];show B3n _ _=B3n _ (if j=k then rv else sv j);rw [if_neg (by omega)],?_⟩,by simp,fun j _=>rfl⟩
 obtain ⟨s2,h1,h2⟩:=hR
 refine ⟨s2,?_,B0n k (fun j hj=>⟨rfl,hsv j hj⟩) h2⟩
 simp only [if_true];exact h1
theorem B7P {R:St→St→Prop} {ty e n b:Nat} {fo:Nat→AV} {base s:St} {zv:AV} {y:L7} (h:ROut R ty e fo n (upd base b y) zv (upd s b y)) (ty' e':Nat) (fo':Nat→AV):∃ s1,Col ty e fo (upd base b y) n zv s1∧ROut R ty' e' fo' 0 s1 .emp (upd s b y):=by
 obtain ⟨s1,h1,h2⟩:=h
 exact ⟨s1,h1,ROut.start h2 _ _ _⟩
theorem C7X {R:St→St→Prop} (hR:K7 R) {ty e n b ty' e' m:Nat} {fo fo':Nat→AV} {base s1 t:St} {zv rv:AV} {y:L7} (h1:Col ty e fo (upd base b y) n zv s1) (h2:ROut R ty' e' fo' m s1 rv t) (y':L7) :
  ∃ s1',Col ty e fo (upd base b y') n zv s1'∧ROut R ty' e' fo' m s1' rv (upd t b y'):=by
 have h3:=Col.write (y':=y') h1 (A0 ..)
 rw [C5] at h3
 exact ⟨_,h3,ROut.write hR h2 (h1.sup b _ (A0 ..))⟩
set_option maxHeartbeats 8000000 in
theorem C2e (x:Tax) (st:St):S P 102 [T7 x] st fun v st'=>v=T7 (L9 x)∧st'=st:=by
 have hE:T7 (L9 x)=.agg [eB x.incl,eB x.byOrder,eI (B5 x.round 3),A8 4 S9 (L9 x).zones]:=rfl
 refine S.post (post:=fun v s=>∃ zv base,v=.agg [eB x.incl,eB x.byOrder,eI (B5 x.round 3),zv]∧A7 [zv] s [A8 4 S9 (L9 x).zones] base∧F8 st base) ?_ (fun v s ⟨zv,base,h1,h2,h3⟩=>⟨_,st,⟨hE.symm,rfl⟩,by
  rw [h1]
  exact (A7.agg (A7.cons (A7.keep [eB x.incl] _) (A7.cons (A7.keep [eB x.byOrder] _) (A7.cons (A7.keep [eI (B5 x.round 3)] _) h2)))).trans (h3.shift _)⟩)
 clear hE
 have hRd:=fun s=>A1l x.round 3 (by decide) (by decide) s
 obtain ⟨RD',hRD'⟩:∃ RD',RD'=B5 x.round 3:=⟨_,rfl⟩
 rw [←hRD'] at hRd ⊢
 have hend:=fun base s zv=>ZO.end (t:=x) (base:=base) (s:=s) (zv:=zv)
 have hnext:=fun k base s1 s zv rv sv g=>ZO.next (t:=x) (k:=k) (base:=base) (s1:=s1) (s:=s) (zv:=zv) (rv:=rv) (sv:=sv) (g:=g)
 generalize A8 4 S9 (L9 x).zones=ZS at hend ⊢
 refine F7 [1] Tryz.func102 ?_
 intro b2 hb2;conv=>whnf
 refine ⟨[8,9],[1,3,5,6],List.range 10,by kernel_rfl,?_⟩;conv=>whnf
 refine ⟨_,fun s _=>⟨rfl,rfl⟩,?_⟩;conv=>whnf
 refine ⟨_,fun s _=>⟨rfl,rfl⟩,?_⟩;conv=>whnf
 refine ⟨_,fun s _=>⟨rfl,rfl⟩,?_⟩;conv=>whnf
 refine ⟨_,fun s _=>F3 (hRd s),?_⟩;conv=>whnf
 intro b3 hb3
 have h23:b2≠b3:=fun e=>by subst e;rw [A0] at hb3;cases hb3
 conv=>whnf
 refine stU (A0 ..) rfl ?_
 rw [C5];conv=>whnf
 refine lp 3 [1,2,3,4] (fun k vs s=>∃ zv f,vs=[.fptr (T7 x) 0,.optr 4 b2 0 0,.optr 4 b3 0 0,eI k]∧f 0=.agg [eB x.incl,eB x.byOrder,eI RD',zv]∧ZO x k (upd (upd st b2 ⟨26,4,1,fun _=>I1 r26.zero⟩) b3 ⟨26,4,1,f⟩) zv s) ?_ ?_
 ·conv=>whnf
  exact ⟨.emp,_,rfl,by first | rfl | (rw [A6];rfl),fun _=>.junk,fun _=>.junk,ROut.start (show A2T _ _ 0 _ _ from F8.refl _) _ _ _,fun j hj=>absurd hj (by omega)⟩
 rintro k vs s hk ⟨zv,f,rfl,hf,sv,g,hR,hg⟩
 have hB:=A2J (fun j=>(D7 x.zones j).rates) sv k
 have hsup:=ROut.sup hB hR
 have at3:s b3=some ⟨26,4,1,f⟩:=hsup b3 _ (A0 ..)
 have at2:s b2=some ⟨26,4,1,fun _=>I1 r26.zero⟩:=hsup b2 _ (by rw [B0 h23];exact A0 ..)
 conv=>whnf
 refine B7 (fun h1=>?_) (fun h1=>?_)<;>rw [h1]<;>simp only [D7d,D7e] at h1
 case refine_2 =>
  obtain rfl:k=3:=by omega
  have hz:=ROut.head hR
  obtain ⟨y2,hy2⟩:∃ y2:L7,y2=⟨26,4,1,I6 (fun _=>I1 r26.zero) 0 (.agg [eB x.incl,eB x.byOrder,eI RD',zv])⟩:=⟨_,rfl⟩
  obtain ⟨base,k1,k2⟩:=hend _ _ _ ⟨sv,g,ROut.write hB hR (b:=b2) (y':=y2) (by rw [B0 h23];exact A0 ..),hg⟩
  subst hy2
  rcases hz with rfl | ⟨bz,rfl⟩
  all_goals
   conv=>whnf
   refine L1 at3 hf ?_
   refine stW at2 rfl ?_
   refine L1 (A0 ..) (A6 ..) ?_
   exact ⟨_,base,rfl,k1,((((F8.refl st).upd hb2).upd hb3).over hb2).trans k2⟩
 have hk3:k<3:=by omega
 have hzn:=C6f k hk3
 have w1:IntKind.i64.wrap (1000 * (k:Int))=1000 * k:=A4 (by omega) (by omega)
 have w2:IntKind.i64.wrap (500 * (k:Int))=500 * k:=A4 (by omega) (by omega)
 have hname:∀ j,(D7 x.zones j).name=Q9 j:=fun j=>by unfold D7;split<;>rfl
 conv=>whnf
 intro b5 hb5
 have h35:b3≠b5:=fun e=>by subst e;rw [at3] at hb5;cases hb5
 have h25:b2≠b5:=fun e=>by subst e;rw [at2] at hb5;cases hb5
 have hbase5:(upd (upd st b2 ⟨26,4,1,fun _=>I1 r26.zero⟩) b3 ⟨26,4,1,f⟩) b5=none:=hsup.none hb5
 conv=>whnf
 rw [hzn,w1,w2]
 refine stU (A0 ..) rfl ?_
 rw [C5]
 /- the tail: the zone as it then stands is appended -/
 have tail:∀ (s2 s1:St) (rv:AV) (f5:Nat→AV),Col 103 4 g (upd (upd (upd st b2 ⟨26,4,1,fun _=>I1 r26.zero⟩) b3 ⟨26,4,1,f⟩) b5 ⟨103,4,1,f5⟩) k zv s1 →
   ROut (A2T (fun j=>(D7 x.zones j).rates) sv k) 209 2 (A7O (D7 x.zones k).rates) (D7 x.zones k).rates.length s1 rv s2 →
   ∀ (X:AV) (gg:Nat→AV),A0v 4 s2 X=some (1,gg)→gg 0=B3n (D7 x.zones k) rv →
   ∀ (K:KK),(∀ zv' t2,t2 b3=some ⟨26,4,1,f⟩→(zv'=.emp∨∃ b,zv'=.own 4 b 0 (k+1))→(∀ f',ZO x (k+1) (upd (upd st b2 ⟨26,4,1,fun _=>I1 r26.zero⟩) b3 ⟨26,4,1,f'⟩) zv' (upd t2 b3 ⟨26,4,1,f'⟩))→K zv' t2) →
   A5V T 24 zv X s2 K:=by
  intro s2 s1 rv f5 hcol hrt X gg hs hgg K hK
  obtain ⟨sv',g',q1,q2,q3⟩:=hnext _ _ _ _ _ _ _ _ hcol hrt hg
  have hB':=A2J (fun j=>(D7 x.zones j).rates) sv' (k+1)
  refine ROut.app (q:=C2j) (f:=g') hB' rfl rfl rfl rfl hs (by rw [q3 k (D9J k),q2,hgg]) (by show (k+1) * 56≤140737488355328;omega) q1 (fun zv' t2 hR2=>?_)
  have hsup2:=ROut.sup hB' hR2
  have hd:∀ f',ROut (A2T (fun j=>(D7 x.zones j).rates) sv' (k+1)) 103 4 g' (k+1) (upd (upd st b2 ⟨26,4,1,fun _=>I1 r26.zero⟩) b3 ⟨26,4,1,f'⟩) zv' (upd t2 b3 ⟨26,4,1,f'⟩):=fun f'=>by
   have h1:=ROut.write hB' hR2 (b:=b3) (y':=⟨26,4,1,f'⟩) (by rw [B0 h35];exact A0 ..)
   rw [R9 h35.symm,C5] at h1
   refine (W0 hB' _ _ _ _ _).drop h1 ?_
   rw [B0 h35.symm] at hbase5 ⊢;exact hbase5
  exact hK zv' t2 (hsup2 b3 _ (by rw [B0 h35];exact A0 ..)) (ROut.head hR2) fun f'=>⟨sv',g',hd f',q3⟩
 have hbeg:=fun y=>(W0 hB 103 4 g k zv).begin (y:=y) hR hb5
 conv=>whnf
 refine B7 (fun h2=>?_) (fun h2=>?_)<;>rw [h2]<;>simp only [D7d,D7e] at h2
 case refine_2 =>
  have hz:=B5v (l:=x.zones) (k:=k) (by omega)
  rw [hz] at tail
  rcases ROut.head hR with rfl | ⟨bz,rfl⟩
  all_goals
   conv=>whnf
   refine L1 (by rw [B0 h35];exact at3) hf ?_
   refine L1 (A0 ..) (A6 ..) ?_
   obtain ⟨s1,hcol,hrt⟩:=B7P (hbeg ⟨103,4,1,I6 (fun _=>I1 C2j.zero) 0 (.agg [eS (Q9 k),.emp,eI (1000 * k),eI (500 * k)])⟩) 209 2 (A7O [])
   refine tail _ s1 .emp _ hcol hrt _ _ rfl rfl _ (fun zv' t2 q1 q2 q3=>?_)
   rcases q2 with rfl | ⟨bq,rfl⟩
   all_goals
    conv=>whnf
    refine stW q1 hf ?_
    refine G3 ?_
    exact nx hk3 ⟨_,_,by rw [B4 (by omega)],(by rw [A6];rfl),q3 _⟩
 have hz:=B7k (l:=x.zones) (k:=k) (by omega)
 have hrl:=fun c=>C7I (l:=(x.zones.getD (k:Int).toNat default).rates) (c:=c)
 have hrn:(U4 (x.zones.getD (k:Int).toNat default).rates).length=min 3 (x.zones.getD (k:Int).toNat default).rates.length:=by unfold U4;rw [D7i,D7F]
 rw [hz] at tail
 have hM1:=fun s=>W6 (x.zones.getD (k:Int).toNat default).rest 3000 (by decide) (by decide) s
 have hM2:=fun s=>W6 (x.zones.getD (k:Int).toNat default).ship 3000 (by decide) (by decide) s
 have tail':_:=tail
 rw [show x.zones.getD k default=x.zones.getD (k:Int).toNat default from rfl] at tail'
 clear tail
 generalize U4 (x.zones.getD (k:Int).toNat default).rates=RL at tail' hrl hrn
 generalize B5 (x.zones.getD (k:Int).toNat default).rest 3000=M1 at tail' hM1
 generalize B5 (x.zones.getD (k:Int).toNat default).ship 3000=M2 at tail' hM2
 conv=>whnf
 refine ⟨[15,17],[],List.range 18,by kernel_rfl,?_⟩;conv=>whnf
 refine E9 ?_
 refine cqW (hM1 _) ?_
 refine E9 ?_
 refine cqW (hM2 _) ?_
 refine stU (A0 ..) (A6 ..) ?_
 rw [C5];conv=>whnf
 refine stU (A0 ..) (A6 ..) ?_
 rw [C5];conv=>whnf
 refine lp (min 3 (x.zones.getD (k:Int).toNat default).rates.length) [1,2,3,4,5,6] (fun c vs s'=>∃ rv f5,vs=[.fptr (T7 x) 0,.optr 4 b2 0 0,.optr 4 b3 0 0,eI k,.optr 4 b5 0 0,eI c]∧f5 0=.agg [eS (Q9 k),rv,eI M1,eI M2] ∧
   ∃ s1,Col 103 4 g (upd (upd (upd st b2 ⟨26,4,1,fun _=>I1 r26.zero⟩) b3 ⟨26,4,1,f⟩) b5 ⟨103,4,1,f5⟩) k zv s1∧ROut (A2T (fun j=>(D7 x.zones j).rates) sv k) 209 2 (A7O RL) c s1 rv s') ?_ ?_
 ·conv=>whnf
  exact ⟨.emp,_,rfl,by first | rfl | (rw [A6];rfl),B7P (hbeg _) _ _ _⟩
 rintro c vs s' hc ⟨rv,f5,rfl,hf5,s1,hcol,hrt⟩
 have hsup':=ROut.sup hB hrt
 have at5:s' b5=some ⟨103,4,1,f5⟩:=hsup' b5 _ (hcol.sup b5 _ (A0 ..))
 have at3':s' b3=some ⟨26,4,1,f⟩:=hsup' b3 _ (hcol.sup b3 _ (by rw [B0 h35];exact A0 ..))
 conv=>whnf
 refine B7 (fun h3=>?_) (fun h3=>?_)<;>rw [h3]<;>simp only [D7d,D7e] at h3
 case' refine_1 =>
  conv=>whnf
  refine E9 ?_
  refine B7 (fun h4=>?_) (fun h4=>?_)<;>rw [h4]<;>simp only [D7d,D7e] at h4
 case refine_1.refine_1 =>
  have hc':c<min 3 (x.zones.getD (k:Int).toNat default).rates.length:=by omega
  have hra:=hrl c hc'
  rcases ROut.head hrt with rfl | ⟨br,rfl⟩
  all_goals
   conv=>whnf
   refine ⟨[17,19],[14],List.range 20,by kernel_rfl,?_⟩;conv=>whnf
   refine L1 at5 hf5 ?_
   refine cqW (A5n _ _) ?_
   refine E9 ?_
   refine E9 ?_
   refine ⟨_,fun s _=>F3 (W6 _ 3000 (by decide) (by decide) s),?_⟩;conv=>whnf
   refine ⟨_,⟨rfl,rfl⟩,?_⟩;conv=>whnf
   refine ROut.app (q:=C7z) hB rfl rfl rfl rfl rfl (f:=A7O RL) (by show _=A1i _;rw [hra];rfl) (by show (c+1) * 24≤140737488355328;omega) hrt (fun rv' t2 hrt2=>?_)
   have at5':t2 b5=some ⟨103,4,1,f5⟩:=ROut.sup hB hrt2 b5 _ (hcol.sup b5 _ (A0 ..))
   rcases ROut.head hrt2 with rfl | ⟨br',rfl⟩
   all_goals
    conv=>whnf
    refine stW at5' hf5 ?_
    refine G3 ?_
    exact nx hc' ⟨_,_,by rw [B4 (by omega)],(by rw [A6];rfl),C7X hB hcol hrt2 _⟩
 all_goals
  have hce:RL.length=c:=by omega
  rw [←hce] at hrt
  rcases ROut.head hR with rfl | ⟨bz,rfl⟩
  all_goals
   rcases ROut.head hrt with rfl | ⟨br,rfl⟩
   all_goals
    conv=>whnf
    refine L1 at3' hf ?_
    refine L1 at5 hf5 ?_
    refine tail' _ s1 _ _ hcol hrt _ _ rfl rfl _ (fun zv' t2 q1 q2 q3=>?_)
    rcases q2 with rfl | ⟨bq,rfl⟩
    all_goals
     conv=>whnf
     refine stW q1 hf ?_
     refine G3 ?_
     exact nx hk3 ⟨_,_,by rw [B4 (by omega)],(by rw [A6];rfl),q3 _⟩
set_option maxHeartbeats 8000000 in
theorem B7j (r:E0) (st:St):S P 44 [F4 r] st fun v st'=>v=F4 (F0 r)∧st'=st:=by
 have hE:F4 (F0 r)=.agg [A8 4 F2 (G7 r.items),A8 15 B8 (N9 r.promos),eB (L9 r.tax).incl,eB (L9 r.tax).byOrder,eI (L9 r.tax).round,A8 4 S9 (L9 r.tax).zones,eI (B5 r.ship.fee 900),eI (B5 r.ship.free 3 * 4000),
  eI (20+B5 r.policy.window 60),eI (B5 r.policy.grace 40),eI (1+B5 r.policy.mode 3),eI (B5 r.policy.restock 3 * B5 r.policy.restock 2500),A9 (O8 r.policy.order),A9 (O8 r.policy.credit)]:=rfl
 rw [hE]
 clear hE
 have h1:=C7 r.ship.fee (n:=900) (by decide)
 have h2:=C7 r.ship.free (n:=3) (by decide)
 have h3:=C7 r.policy.window (n:=60) (by decide)
 have h5:=C7 r.policy.mode (n:=3) (by decide)
 have h6:=C7 r.policy.restock (n:=3) (by decide)
 have h7:=C7 r.policy.restock (n:=2500) (by decide)
 have h8:B5 r.policy.restock 3 * B5 r.policy.restock 2500≤2 * 2499:=D9z (by omega) (by omega) (by omega) (by omega)
 have h9:0≤B5 r.policy.restock 3 * B5 r.policy.restock 2500:=D8H h6.1 h7.1
 have w1:IntKind.i64.wrap (B5 r.ship.free 3 * 4000)=B5 r.ship.free 3 * 4000:=A4 (by omega) (by omega)
 have w2:IntKind.i64.wrap (20+B5 r.policy.window 60)=20+B5 r.policy.window 60:=A4 (by omega) (by omega)
 have w3:IntKind.i64.wrap (1+B5 r.policy.mode 3)=1+B5 r.policy.mode 3:=A4 (by omega) (by omega)
 have w4:IntKind.i64.wrap (B5 r.policy.restock 3 * B5 r.policy.restock 2500)=B5 r.policy.restock 3 * B5 r.policy.restock 2500:=A4 (by omega) (by omega)
 have m1:=fun s=>W6 r.ship.fee 900 (by decide) (by decide) s
 have m2:=fun s=>W6 r.ship.free 3 (by decide) (by decide) s
 have m3:=fun s=>A1l r.policy.window 60 (by decide) (by decide) s
 have m4:=fun s=>A1l r.policy.grace 40 (by decide) (by decide) s
 have m5:=fun s=>A1l r.policy.mode 3 (by decide) (by decide) s
 have m6:=fun s=>W6 r.policy.restock 3 (by decide) (by decide) s
 have m7:=fun s=>W6 r.policy.restock 2500 (by decide) (by decide) s
 have c1:=fun s=>B7g r.items s
 have c2:=fun s=>B5u r.promos s
 have c3:∀ s,S P 102 [T7 r.tax] s fun v st'=>v=.agg [eB (L9 r.tax).incl,eB (L9 r.tax).byOrder,eI (L9 r.tax).round,A8 4 S9 (L9 r.tax).zones]∧st'=s:=fun s=>C2e r.tax s
 have c4:=fun s=>B0v r.policy.order s
 have c5:=fun s=>B0v r.policy.credit s
 clear h1 h2 h3 h5 h6 h7 h8 h9
 generalize B5 r.ship.fee 900=M1 at *
 generalize B5 r.ship.free 3=M2 at *
 generalize B5 r.policy.window 60=M3 at *
 generalize B5 r.policy.grace 40=M4 at *
 generalize B5 r.policy.mode 3=M5 at *
 generalize B5 r.policy.restock 3=M6 at *
 generalize B5 r.policy.restock 2500=M7 at *
 generalize G7 r.items=V1 at *
 generalize N9 r.promos=V2 at *
 generalize L9 r.tax=V3 at *
 generalize O8 r.policy.order=V4 at *
 generalize O8 r.policy.credit=V5 at *
 refine A0g ?_
 refine F7 [1,3] Tryz.func44 ?_
 intro b2 hb;conv=>whnf
 refine ⟨[45],[],List.range 46,by kernel_rfl,?_⟩;conv=>whnf
 refine cqW (c1 _) ?_
 refine cqW (c2 _) ?_
 refine cqW (c3 _) ?_
 refine cqW (m1 _) ?_
 refine cqW (m2 _) ?_
 rw [w1]
 refine cqW (m3 _) ?_
 rw [w2]
 refine cqW (m4 _) ?_
 refine cqW (m5 _) ?_
 rw [w3]
 refine cqW (m6 _) ?_
 refine cqW (m7 _) ?_
 rw [w4]
 refine cqW (c4 _) ?_
 refine cqW (c5 _) ?_
 refine stW (A0 ..) rfl ?_
 refine L1 (A0 ..) (A6 ..) ?_
 exact ⟨rfl,((F8.refl st).upd hb).over hb⟩
end Go.Proofs.YtaapofnkmpiknaaGreat
namespace Go.Proofs.YtaapofnkmpiknaaGreat
open Go Go.Ab
def C3X (rates:List Int) (i:Nat):QE:=(-(gI rates i),(i:Int))
def C0n (rates:List Int):List QE:=(List.range rates.length).map (C3X rates)
def B0B (rates:List Int):List QE:=(C0n rates).mergeSort fun a b=>!H2 b a
theorem A9g (rates:List Int):(B0B rates).Pairwise fun a b=>H2 b a=false:=by
 have:=D9u (le:=fun a b:QE=>!H2 b a) (fun a b c h1 h2=>by simp only [D7v] at *;exact A0T h2 h1) (fun a b=>by
  cases h:H2 b a with
  | false=>rfl
  | true=>rw [A0F h];rfl) (C0n rates)
 exact this.imp (fun h=>by simpa using h)
theorem A5E (rates:List Int):(B0B rates).Perm (C0n rates):=D9Q ..
def L0 (rates:List Int) (k:Int):List Nat:=(List.range rates.length).filter fun i=>-(gI rates i)==k
theorem C2I (rates:List Int) (k:Int):(B0B rates).filter (fun e=>e.1==k)=(L0 rates k).map fun i:Nat=>(k,(i:Int)):=by
 have h1:((B0B rates).filter (fun e=>e.1==k)).Perm ((L0 rates k).map fun i:Nat=>(k,(i:Int))):=by
  refine ((A5E rates).filter _).trans ?_
  unfold C0n L0
  rw [List.filter_map]
  refine List.Perm.of_eq ?_
  refine D8x fun i hi=>?_
  have:=(D8d.1 hi).2
  show (-(gI rates i),(i:Int))=(k,(i:Int))
  have h : -(gI rates i)=k:=by simpa [C3X] using this
  rw [h]
 refine h1.eq_of_pairwise (le:=fun a b=>H2 b a=false) (fun a b _ _ h3 h4=>(A4J h4 h3)) (D9Y D9f (A9g rates)) ?_
 refine List.pairwise_map.2 ?_
 unfold L0
 refine (D9Y D9f List.pairwise_lt_range).imp fun {a b} hab=>?_
 rw [T2]
 show ¬(k>k∨k=k∧(b:Int)<(a:Int))
 omega
theorem C2M {E:List QE} (hs:E.Pairwise fun a b=>H2 b a=false) {k:Int} (hk:∀ e∈E,e.1≤k):E=E.filter (fun e=>e.1==k)++E.filter (fun e=>!(e.1==k)):=by
 induction E with
 | nil=>rfl
 | cons e E ih =>
  have hs':=D8K.1 hs
  by_cases h:e.1=k
  ·rw [D8f (by simpa using h),D8l (by simpa using h),D9w,←ih hs'.2 fun x hx=>hk x (D7E _ hx)]
  ·have hlt:∀ x∈E,x.1<k:=fun x hx=>by
    have h1:=(T2 _ _).1 (hs'.1 x hx)
    have h2:=hk e (D7G ..)
    omega
   have hn:E.filter (fun e=>e.1==k)=[]:=List.filter_eq_nil_iff.2 fun x hx=>by have:=hlt x hx;simp;omega
   have ha:E.filter (fun e=>!(e.1==k))=E:=List.filter_eq_self.2 fun x hx=>by have:=hlt x hx;simp;omega
   rw [D8l (by simpa using h),D8f (by simpa using h),hn,ha];rfl
def A2a (rates:List Int) (D:Int→Bool):List QE:=(B0B rates).filter fun e=>!D e.1
theorem A8G (rates:List Int) (D:Int→Bool):(A2a rates D).Pairwise fun a b=>H2 b a=false:=D9Y D9f (A9g rates)
theorem B8N {rates:List Int} {D:Int→Bool} {x:QE} {E:List QE} (h:A2a rates D=x::E) :
  D x.1=false∧x::E=((L0 rates x.1).map fun i:Nat=>(x.1,(i:Int)))++A2a rates (fun y=>D y||y==x.1):=by
 have hs:=A8G rates D
 have hx:x∈A2a rates D:=by rw [h];exact D7G ..
 have hD:D x.1=false:=by
  have:=(D8d.1 hx).2
  simpa using this
 refine ⟨hD,?_⟩
 have hk:∀ e∈A2a rates D,e.1≤x.1:=fun e he=>by
  rw [h] at he hs
  rcases D8A.1 he with rfl | he
  ·exact D7L _
  ·have:=(T2 _ _).1 ((D8K.1 hs).1 e he);omega
 have h2:=C2M hs hk
 rw [←h,h2]
 congr 1
 ·rw [←C2I]
  unfold A2a
  rw [List.filter_filter]
  refine List.filter_congr fun e he=>?_
  by_cases e1:e.1=x.1
  ·rw [e1,hD];simp
  ·simp [e1]
 ·unfold A2a
  rw [List.filter_filter]
  refine List.filter_congr fun e he=>?_
  show (!(e.1==x.1)&&!D e.1)=!(D e.1||e.1==x.1)
  rw [Bool.not_or,Bool.and_comm]
theorem B5f {rates:List Int} {D:Int→Bool} {k:Int}:∀ y∈A2a rates (fun z=>D z||z==k),(y.1==k)=false:=fun y hy=>by
 have:=(D8d.1 hy).2
 simp only [D7v,D8n] at this
 exact this.2
theorem B6L (rates:List Int):A2a rates (fun _=>false)=B0B rates:=List.filter_eq_self.2 fun x _=>rfl
theorem A0P {rates:List Int} {k:Int} {i:Nat} (hi:i∈L0 rates k) : -(gI rates i)=k∧i<rates.length∧A8I rates i=L0 rates k:=by
 have h1:=D8d.1 hi
 have h2 : -(gI rates i)=k:=by simpa using h1.2
 refine ⟨h2,D7t.1 h1.1,?_⟩
 unfold A8I L0
 refine List.filter_congr fun j _=>?_
 rw [E0g,D7Z,D7Z];omega
theorem B4b (rates:List Int) (k:Int):(L0 rates k).Nodup:=D9Y D9f List.nodup_range
theorem C6U {rates:List Int} {k:Int} {j:Nat} (hj:j<(L0 rates k).length):A0R rates ((L0 rates k)[j])=j:=by
 have hm:=A0P (D8y hj)
 have h1:=A8J hm.2.1
 rw [hm.2.2] at h1
 have h2:=D7w.1 h1
 obtain ⟨h3,h4⟩:=h2
 have:=(List.nodup_iff_pairwise_ne.1 (B4b rates k))
 rcases Nat.lt_trichotomy (A0R rates ((L0 rates k)[j])) j with e | e | e
 ·exact absurd h4 (D8I.1 this _ _ h3 hj e)
 ·exact e
 ·exact absurd h4.symm (D8I.1 this _ _ hj h3 e)
def A2Z (t:Tax) (rates nets:List Int) (k:Int):List Int:=D1 (O3 t (A2 ((L0 rates k).map (gI nets))) (-k)) ((L0 rates k).map (gI nets))
theorem C4N {t:Tax} {rates nets:List Int} {k:Int} {j:Nat} (hj:j<(L0 rates k).length):gI (A2Z t rates nets k) j=A2e t rates nets ((L0 rates k)[j]):=by
 have hm:=A0P (D8y hj)
 unfold A2Z A2e J1
 rw [C6U hj,hm.2.2,show gI rates ((L0 rates k)[j]) = -k by omega]
end Go.Proofs.YtaapofnkmpiknaaGreat
namespace Go.Proofs.YtaapofnkmpiknaaGreat
open Go Go.Ab
attribute [local irreducible] upd del
theorem C4Y (st0:St) (q:Nat) (f:Bool) (st:St) (h:QSt st0 q f [] st):S P 237 [.optr 1 q 0 0] st fun v st'=>v=.tuple [eI 0,eI 0,.bool false]∧st'=st:=by
 obtain ⟨h1,h2,sv,⟨fq,hqs,hq0⟩,h3⟩:=h
 refine F7 [] Tryz.func237 ?_
 rcases h3 with ⟨_,rfl⟩ | ⟨b,l,n,a1,a2,rfl,a4,a5,a6,a7,a8,a9⟩
 ·refine L1 hqs hq0 ?_
  exact ⟨rfl,rfl⟩
 ·have e:n=0:=by
   have:=a8.length_eq
   rw [D7n,D8u] at this;omega
  subst e
  refine L1 hqs hq0 ?_
  exact ⟨rfl,rfl⟩
theorem B5w (st0:St) (q:Nat) (f:Bool) (x:QE) (es:List QE) (st:St) (h:QSt st0 q f (x::es) st) (htop:∀ y∈es,H2 y x=false):S P 237 [.optr 1 q 0 0] st fun v st'=>v=.tuple [eI x.1,eI x.2,.bool true]∧st'=st:=by
 obtain ⟨h1,h2,sv,hq,h3⟩:=h
 rcases h3 with ⟨h,_⟩ | ⟨b,l,n,a1,a2,rfl,a4,a5,a6,a7,a8,a9⟩
 ·cases h
 have hn:n=es.length+1:=by
  have:=a8.length_eq
  rw [D7n,D7N] at this;omega
 subst hn
 have hx:at_ l 0=x:=by
  have m0:at_ l 0∈x::es:=by
   refine a8.subset ?_
   have:(l.take (es.length+1)).getD 0 default=at_ l 0:=by
    unfold at_;rw [D7c,D7c,D7r (by omega)]
   rw [←this];exact A5 (by rw [D7n];omega)
  have hmem:x∈l.take (es.length+1):=a8.symm.subset (D7G ..)
  obtain ⟨k,hk,he⟩:=D2 hmem
  rw [D7n] at hk
  have hxk:x=at_ l k:=by
   rw [he];unfold at_;rw [D7c,D7c,D7r (by omega)]
  have t1:H2 x (at_ l 0)=false:=by rw [hxk];exact a6.top k (by omega)
  rcases D8A.1 m0 with e | e
  ·exact e
  ·exact A4J (htop _ e) t1
 obtain ⟨fq,hqs,hq0⟩:=hq
 obtain ⟨fe,hes,hef⟩:=a7
 have h0:fe 0=A6i x:=by rw [hef 0 (by omega),hx]
 refine F7 [] Tryz.func237 ?_
 refine L1 hqs hq0 ?_
 rw [show (((es.length+1:Nat):Int)==0)=false by rw [D7P];omega];conv=>whnf
 refine ⟨[],[],List.range 17,by kernel_rfl,?_⟩;conv=>whnf
 refine L1 hqs hq0 ?_
 refine E9 ?_
 refine ldV hes rfl (by omega) (v:=A6i x) h0 ?_;conv=>whnf
 refine L1 hqs hq0 ?_
 refine E9 ?_
 refine ldV hes rfl (by omega) (v:=A6i x) h0 ?_;conv=>whnf
 exact ⟨rfl,rfl⟩
def IsL (L:List Int) (y:L7):Prop:=∃ f,y=⟨2,1,L.length,f⟩∧∀ i,i<L.length→f i=eI (gI L i)
def OQ (bo q:Nat) (L:List Int) (fl:Bool) (es:List QE):St→St→Prop:=Z9 bo (IsL L) (fun s t=>QSt s q fl es t)
theorem B1z (bo q:Nat) (L:List Int) (fl:Bool) (es:List QE):K7 (OQ bo q L fl es):=A0M (C0d q fl es)
abbrev gN (G:List Nat) (i:Nat):Int:=((G.getD i 0:Nat):Int)
def QJ (G:List Nat) (k:Int) (Rest:List QE) (j:Nat):List QE:=((G.drop j).map fun i:Nat=>(k,(i:Int)))++Rest
theorem C6t {G:List Nat} {k:Int} {Rest:List QE} {j:Nat} (hj:j<G.length):QJ G k Rest j=(k,gN G j)::QJ G k Rest (j+1):=by
 unfold QJ gN
 rw [D9h hj,D7c,D7k hj];rfl
theorem C3s {G:List Nat} {k:Int} {Rest:List QE}:QJ G k Rest G.length=Rest:=by
 unfold QJ;rw [List.drop_length];rfl
def C4R (es:List QE):AV:=match es with
 | []=>.tuple [eI 0,eI 0,.bool false]
 | y::_=>.tuple [eI y.1,eI y.2,.bool true]
theorem C4Z (st0:St) (q:Nat) (f:Bool) (es:List QE) (st:St) (h:QSt st0 q f es st) (hs:es.Pairwise fun a b=>H2 b a=false):S P 237 [.optr 1 q 0 0] st fun v st'=>v=C4R es∧st'=st:=by
 cases es with
 | nil=>exact C4Y st0 q f st h
 | cons y es=>exact B5w st0 q f y es st h (D8K.1 hs).1
def B3X (t:Tax) (rates nets:List Int) (D:Int→Bool) (L:List Int):Prop:=L.length=nets.length∧∀ i,i<nets.length→gI L i=if D (-(gI rates i))=true then A2e t rates nets i else 0
theorem C4e {a b:List Int} (hl:a.length=b.length) (h:∀ i,i<a.length→gI a i=gI b i):a=b:=D9K hl fun i h1 h2=>by
 have:=h i h1
 unfold gI at this
 rw [D7c,D7k h1,D7c,D7k h2] at this
 exact this
theorem C3V {t:Tax} {rates nets:List Int} {D:Int→Bool} {L:List Int} (h:B3X t rates nets D L) (hr:rates.length=nets.length) (hE:A2a rates D=[]):L=H6 t rates nets:=by
 have hl:(H6 t rates nets).length=nets.length:=by unfold H6;rw [D7i,D7F]
 refine C4e (by rw [h.1,hl]) fun i h1=>?_
 have hi:i<nets.length:=by rw [←h.1];exact h1
 have h3:=h.2 i hi
 have hD:D (-(gI rates i))=true:=by
  have hm:C3X rates i∈B0B rates:=(A5E rates).mem_iff.2 (D7y.2 ⟨i,D7t.2 (by omega),rfl⟩)
  have:=List.filter_eq_nil_iff.1 hE _ hm
  simpa [C3X] using this
 rw [if_pos hD] at h3
 rw [h3]
 unfold H6 gI
 rw [D7c,D8a,D8C hi];rfl
def A4K (L:List Int) (G:List Nat) (X:List Int):Nat→List Int
 | 0=>L
 | j+1=>(A4K L G X j).set (G.getD j 0) (gI X j)
theorem A8V (L:List Int) (G:List Nat) (X:List Int) (j:Nat):(A4K L G X j).length=L.length:=by
 induction j with
 | zero=>rfl
 | succ j ih=>show ((A4K L G X j).set _ _).length=_;rw [D8p,ih]
theorem C0H {L:List Int} {G:List Nat} {X:List Int} (hn:G.Nodup) (hG:∀ i∈G,i<L.length):∀ j,j≤G.length→∀ i,i<L.length→gI (A4K L G X j) i=if i∈G.take j then gI X (G.idxOf i) else gI L i
 | 0,_,i,hi=>by rw [D8B,if_neg D8D];rfl
 | j+1,hj,i,hi=>by
  have ih:=C0H (X:=X) hn hG j (by omega) i hi
  have hgj:G.getD j 0=G[j]:=by rw [D7c,D7k (by omega)];rfl
  show gI ((A4K L G X j).set (G.getD j 0) (gI X j)) i=_
  rw [hgj,D9i (show j<G.length by omega)]
  by_cases e:G[j]=i
  ·have hidx:G.idxOf i=j:=by rw [←e];exact hn.idxOf_getElem j (by omega)
   rw [if_pos (List.mem_append_right _ (D7I.2 e.symm)),hidx]
   unfold gI
   rw [e,D7c,List.getElem?_set_self (by rw [A8V];exact hi)];rfl
  ·have hs:gI ((A4K L G X j).set G[j] (gI X j)) i=gI (A4K L G X j) i:=by
    unfold gI;rw [D7c,D8V e,←D7c]
   rw [hs,ih]
   by_cases hm:i∈G.take j
   ·rw [if_pos hm,if_pos (List.mem_append_left _ hm)]
   ·rw [if_neg hm,if_neg]
    intro h
    rcases D8s.1 h with h | h
    ·exact hm h
    ·exact e (D7I.1 h).symm
theorem B3Y {t:Tax} {rates nets:List Int} {D:Int→Bool} {L:List Int} {k:Int} (h:B3X t rates nets D L) (hr:rates.length=nets.length):B3X t rates nets (fun y=>D y||y==k) (A4K L (L0 rates k) (A2Z t rates nets k) (L0 rates k).length):=by
 have hG:∀ i∈L0 rates k,i<L.length:=fun i hi=>by rw [h.1,←hr];exact (A0P hi).2.1
 refine ⟨by rw [A8V];exact h.1,fun i hi=>?_⟩
 rw [C0H (B4b rates k) hG _ (D7l _) i (by rw [h.1];exact hi),D7m]
 by_cases hm:i∈L0 rates k
 ·obtain ⟨h1,h2,h3⟩:=A0P hm
  have hlt:=List.idxOf_lt_length_iff.2 hm
  rw [if_pos hm,C4N hlt,List.getElem_idxOf hlt,if_pos (by rw [h1];simp)]
 ·have hne:¬ -(gI rates i)=k:=fun e=>hm (D8d.2 ⟨D7t.2 (by omega),by rw [e];exact D9m k⟩)
  rw [if_neg hm,h.2 i hi]
  have:(-(gI rates i)==k)=false:=D7P.2 hne
  simp only [this,D7V]
theorem IsL.set {L:List Int} {f:Nat→AV} {i:Nat} {v:Int} (h:∀ k,k<L.length→f k=eI (gI L k)):IsL (L.set i v) ⟨2,1,L.length,I6 f i (eI v)⟩:=by
 refine ⟨_,by rw [D8p],fun k hk=>?_⟩
 rw [D8p] at hk
 by_cases e:k=i
 ·subst e
  rw [A6];unfold gI
  rw [D7c,List.getElem?_set_self hk];rfl
 ·rw [H7 e,h k hk];unfold gI
  rw [D7c,D7c,D8V (fun e2=>e e2.symm)]
theorem C1M {rates:List Int} {D:Int→Bool} {x:QE} {E:List QE} (h:A2a rates D=x::E):∃ i,i<rates.length∧i∈L0 rates x.1∧gI rates i = -x.1:=by
 have hx:x∈B0B rates:=(D8d.1 (show x∈A2a rates D by rw [h];exact D7G ..)).1
 obtain ⟨i,hi,rfl⟩:=D7y.1 ((A5E rates).mem_iff.1 hx)
 have hi:=D7t.1 hi
 exact ⟨i,hi,D8d.2 ⟨D7t.2 hi,D9m _⟩,by show gI rates i = - -(gI rates i);omega⟩
theorem C8t {rates:List Int} {k:Int} {j:Nat} (hj:j<(L0 rates k).length):(gN (L0 rates k) j).toNat<rates.length∧0≤gN (L0 rates k) j:=by
 have hm:(L0 rates k).getD j 0∈L0 rates k:=by rw [D7c,D7k hj];exact D8y hj
 have:=(A0P hm).2.1
 exact ⟨by show ((((L0 rates k).getD j 0:Nat):Int)).toNat<_;omega,by show 0≤(((L0 rates k).getD j 0:Nat):Int);omega⟩
end Go.Proofs.YtaapofnkmpiknaaGreat
