/- Part 29 of the proof: contracts of the functions that the law reaches -/
import Derived.Test.YthdimklenlikgaaGreatQa28
set_option maxRecDepth 100000
set_option linter.unusedVariables false
set_option linter.unusedSimpArgs false
namespace Go.Proofs.YthdimklenlikgaaGreat
open Go Go.Ab
attribute [local irreducible] upd del
theorem C0J (items:List Ab.Item) (adds:List Add) (hi:items.length≤4611686018427387904) (st:St) :
  S P 46 [B2 4 F1 items,B2 2 C2s adds] st fun v st'=>v=.tuple [B2 3 H2 (A4M items adds).1,eI (A4M items adds).2]∧st'=st:=by
 have hB:A4M items adds=if adds.length<1∨adds.length>1000 then ([],2) else if (adds.any A4A)=true then ([],2) else if (adds.any fun x=>decide (S8 items x.sku<0))=true then ([],7) else (adds.map (A0H items),0):=rfl
 refine S.post (post:=fun v s'=>(∃ e,A4M items adds=([],e)∧v=.tuple [.emp,eI e]∧D7 st s')∨(∃ sv,A4M items adds=(adds.map (A0H items),0)∧v=.tuple [sv,eI 0]∧F2 56 3 H2 (adds.map (A0H items)) st sv s')) ?_ (fun v s' hv=>⟨_,st,⟨rfl,rfl⟩,by
  rcases hv with ⟨e,h1,rfl,h2⟩ | ⟨sv,h1,rfl,h2⟩
  ·rw [h1];exact (B0.tuple (B0.cons (L9 3 _) (B0.keep _ _)) rfl).trans (h2.shift _)
  ·rw [h1];exact B0.tuple (B0.cons h2.shift (B0.keep _ _)) rfl⟩)
 refine A8 [7,10] B8 mixed Tryz.func46 (by rfl) rfl rfl rfl ?_;conv=>whnf
 refine C3 (fun h1=>?_) (fun h1=>?_)<;>rw [h1]<;>simp only [decide_eq_true_eq,decide_eq_false_iff_not] at h1
 ·rw [if_pos (.inl (by omega))] at hB;conv=>whnf
  exact .inl ⟨2,hB,rfl,D7.refl _⟩
 conv=>whnf
 refine C3 (fun h2=>?_) (fun h2=>?_)<;>rw [h2]<;>simp only [decide_eq_true_eq,decide_eq_false_iff_not] at h2
 ·rw [if_pos (.inr (by omega))] at hB;conv=>whnf
  exact .inl ⟨2,hB,rfl,D7.refl _⟩
 rw [if_neg (by omega)] at hB;conv=>whnf
 refine lp adds.length [0,1,20,21,22] (fun i vs t=>(∀ j,j<i→A4A (adds.getD j default)=false)∧vs=[B2 4 F1 items,B2 2 C2s adds,B2 2 C2s adds,eI adds.length,eI i]∧t=st) ?_ ?_
 ·conv=>whnf
  exact ⟨fun j hj=>absurd hj (by omega),rfl,rfl⟩
 rintro i vs t hi' ⟨hno,rfl,rfl⟩
 conv=>whnf
 cases h3:decide ((i:Int)<(adds.length:Int))
 case true =>
  have hi2:=E4 h3
  have hbad:A4A (adds.getD (i:Int).toNat default)=true→A4M items adds=([],2):=fun h=>by
   rw [if_pos (List.any_eq_true.2 ⟨_,B3 hi2,h⟩)] at hB;exact hB
  conv=>whnf
  refine ⟨rfl,⟨by omega,by omega⟩,?_⟩;conv=>whnf
  refine C3 (fun h4=>?_) (fun h4=>?_)<;>rw [h4]
  ·conv=>whnf
   exact .inl ⟨2,hbad (by unfold A4A;rw [h4];rfl),rfl,D7.refl _⟩
  conv=>whnf
  refine C3 (fun h5=>?_) (fun h5=>?_)<;>rw [h5]
  ·conv=>whnf
   exact .inl ⟨2,hbad (by unfold A4A;rw [h5,Bool.or_true]),rfl,D7.refl _⟩
  conv=>whnf
  refine ⟨rfl,?_⟩;conv=>whnf
  exact nx hi2 ⟨J8 hno (show A4A (adds.getD (i:Int).toNat default)=false by unfold A4A;rw [h4,h5];rfl),by rw [B9 (by omega)],rfl⟩
 obtain rfl:=C6 h3 hi'
 rw [if_neg (by
  rw [Bool.not_eq_true,List.any_eq_false]
  intro x hx
  obtain ⟨j,hj,rfl⟩:=E8 hx
  rw [hno j hj];simp)] at hB
 conv=>whnf
 refine lp adds.length [0,8,35,36,37] (fun i vs s=>∃ sv,(∀ j,j<i→(fun x:Add=>decide (S8 items x.sku<0)) (adds.getD j default)=false)∧vs=[B2 4 F1 items,sv,B2 2 C2s adds,eI adds.length,eI i]∧F2 56 3 H2 ((adds.take i).map (A0H items)) t sv s) ?_ ?_
 ·conv=>whnf
  exact ⟨.emp,fun j hj=>absurd hj (by omega),rfl,F2.start _ _ _ _⟩
 rintro i vs s hi2 ⟨sv,hno2,rfl,hc⟩
 conv=>whnf
 cases h4:decide ((i:Int)<(adds.length:Int))
 case false =>
  obtain rfl:=C6 h4 hi2
  rw [List.take_length] at hc
  rw [if_neg (by
   rw [Bool.not_eq_true,List.any_eq_false]
   intro x hx
   obtain ⟨j,hj,rfl⟩:=E8 hx
   have:=hno2 j hj
   simp only at this
   rw [this];simp)] at hB
  conv=>whnf
  exact .inr ⟨sv,hB,rfl,hc⟩
 have hi3:=E4 h4
 have hF:=fun u=>B5l items (adds.getD (i:Int).toNat default).sku hi u
 have hln:((adds.take i).map (A0H items)).length=i:=by rw [List.length_map,List.length_take];omega
 have htk:(adds.take (i+1)).map (A0H items)=(adds.take i).map (A0H items)++[A0H items (adds.getD (i:Int).toNat default)]:=by rw [I6 hi3,List.map_append];rfl
 have hrng:=A9z (fun x:Ab.Item=>x.sku.toList==(adds.getD (i:Int).toNat default).sku.toList) items
 have hAL:A0H items (adds.getD (i:Int).toNat default)=⟨(adds.getD (i:Int).toNat default).sku,(adds.getD (i:Int).toNat default).qty,(items.getD (S8 items (adds.getD (i:Int).toNat default).sku).toNat default).price⟩:=rfl
 have hno3:=fun h=>J8 (q:=fun j=>(fun x:Add=>decide (S8 items x.sku<0)) (adds.getD j default)=false) hno2 h
 have hpos:(fun x:Add=>decide (S8 items x.sku<0)) (adds.getD (i:Int).toNat default)=true→A4M items adds=([],7):=fun h=>by
  rw [if_pos (List.any_eq_true.2 ⟨_,B3 hi3,h⟩)] at hB;exact hB
 have hf0:S8 items (adds.getD (i:Int).toNat default).sku=S8 items (adds.getD i default).sku:=rfl
 simp only at hpos hno3
 rw [←hf0] at hno3
 generalize hfv:S8 items (adds.getD (i:Int).toNat default).sku=FV at hF hpos hno3 hAL
 have hrng2 : -1≤FV∧FV<items.length:=by rw [←hfv];exact hrng
 conv=>whnf
 refine ⟨rfl,⟨by omega,by omega⟩,?_⟩;conv=>whnf
 refine A7 (hF _) ?_;conv=>whnf
 refine C3 (fun h5=>?_) (fun h5=>?_)<;>rw [h5]
 ·conv=>whnf
  exact .inl ⟨7,hpos h5,rfl,hc.sup⟩
 have h5':=of_decide_eq_false h5
 conv=>whnf
 refine ⟨[11,12],[],List.range 14,by kernel_rfl,?_⟩;conv=>whnf
 refine ⟨rfl,⟨by omega,by omega⟩,?_⟩;conv=>whnf
 refine F2.app (y:=A0H items (adds.getD (i:Int).toNat default)) (q:=r56) rfl rfl rfl rfl rfl (by rw [hAL];rfl) (by rw [hln];show (i+1) * 32≤140737488355328;omega) hc (fun sv' t' hc'=>?_);conv=>whnf
 refine ⟨rfl,?_⟩;conv=>whnf
 exact nx hi3 ⟨sv',hno3 h5,by rw [B9 (by omega)],by rw [htk];exact hc'⟩
def aqZ:K3:=⟨⟨#[122]⟩,[],1000,0⟩
def aqI:List Ab.Item:=[⟨⟨#[97]⟩,⟨#[120]⟩,50,false⟩]
def aqR:I4:=⟨aqI,[],⟨false,false,0,[aqZ]⟩,⟨0,0⟩,⟨0,0,1,0,[],[]⟩⟩
def aqL:List G4:=[⟨⟨#[97]⟩,2,50⟩]
def aqA:List Add:=[⟨⟨#[97]⟩,2⟩]
def aqQ:A4f:=⟨[100],[10],0,0,110,[]⟩
theorem B9z:A4M aqI aqA=(aqL,0):=by kernel_rfl
theorem B9y:E7 aqR [] aqL=0:=by kernel_rfl
theorem B9A:W4 aqR aqL [] []=⟨[100],100,0,[]⟩:=by kernel_rfl
theorem C4t:A0G aqR:=⟨Nat.zero_le _,fun p hp=>absurd hp List.not_mem_nil,by show 0<_;decide,by show 0<_;decide⟩
theorem B4q {codes:List D6} {o:List Int} (ho:A7z [] codes o):N9 [] o=[]:=List.perm_nil.1 ((B1D [] o).trans ho.1)
theorem B7B (st:St):S P 20 [H6 aqR,D3 [],B2 3 H2 aqL] st fun v st'=>v=.tuple [T1 ⟨[100],100,0,[]⟩,eI 0]∧st'=st :=
 (price_S aqR [] aqL C4t (by decide) (by decide) (by decide) st).mono fun v s hv=>by
  obtain ⟨hv,rfl⟩:=hv
  refine ⟨?_,rfl⟩
  rcases hv with ⟨h,_⟩ | ⟨_,o1,o2,h1,h2,h3⟩
  ·exact absurd B9y h
  ·rw [show aqR.promos=[] from rfl] at h1 h2 h3
   rw [B4q h1,B4q h2,B9A] at h3
   exact h3
theorem B1X:A0i aqR.tax aqZ (J7 aqR aqL) [100] 0:=by
 refine ⟨by kernel_rfl,by kernel_rfl,by kernel_rfl,⟨by decide,fun x hx=>?_,by decide⟩,by decide⟩
 rw [List.mem_singleton.1 hx];decide
theorem B7C (st:St):S P 51 [H6 aqR,eS ⟨#[122]⟩,eB false,D3 [],B2 3 H2 aqL] st fun v st'=>v=.tuple [A0l aqQ,eI 0]∧st'=st:=by
 have hI:∀ st,S P 82 [B2 4 F1 aqR.items,B2 3 H2 aqL] st fun v s=>v=B2 4 F1 (C2 aqR.items aqL)∧s=st:=fun st=>A5y _ _ (by decide) (by decide) (fun x hx=>by rw [List.mem_singleton.1 hx];kernel_rfl) st
 have h:=quote_S (r:=aqR) (codes:=[]) (l:=aqL) (Pr:=⟨[100],100,0,[]⟩) (z:=aqZ) (zone:=⟨#[122]⟩) false B7B hI (by decide) B1X (by kernel_rfl) (fun st=>B3u aqR.tax _ _ (by decide) (by kernel_rfl) (fun x hx=>(A3s B1X).2 x hx) st) (B1s B1X false) st
 rw [show A8a aqR aqZ false aqL ⟨[100],100,0,[]⟩=aqQ by kernel_rfl] at h
 exact h
theorem B1f (st:St):S P 42 [] st fun v st'=>v=.bool true∧st'=st:=by
 have hLn:=fun st=>C0J aqI aqA (by decide) st
 rw [B9z] at hLn
 have hBk:=fun st=>B9G aqQ ⟨by decide,fun x hx=>by rw [List.mem_singleton.1 hx];decide⟩ ⟨by decide,fun x hx=>by rw [List.mem_singleton.1 hx];decide⟩ st
 refine A1u ?_
 refine A8 [1] B8 mixed Tryz.func42 (by rfl) rfl rfl rfl ?_;conv=>whnf
 refine F3 ?_ (A7 (hLn st) ?_)
 ·refine B0.cons (Le.shift (Le.arr1 ?_ rfl) _) (Le.shift (Le.arr1 ?_ rfl) _)
  all_goals repeat' first | exact F7.nil | refine F7.cons ?_ ?_ | exact Le.refl _
 conv=>whnf
 refine F3 ?_ (A7 (B7C st) ?_)
 ·refine B0.cons (Le.shift (Le.agg ?_) _) (B0.cons (B0.keep [eS ⟨#[122]⟩] _) (B0.cons (B0.keep [eB false] _) (B0.cons (Le.shift (Le.emp _ _) _) (B0.keep _ _))))
  repeat' first | exact F7.nil | refine F7.cons ?_ ?_ | exact Le.refl _ | exact Le.emp _ _ | refine Le.arr1 ?_ rfl
 conv=>whnf
 intro b hb;conv=>whnf
 refine G6 (A0 ..) rfl (by omega) rfl (by rfl) ?_
 rw [B7];conv=>whnf
 refine D9 (A0 ..) rfl (by omega) (A2 ..) ?_;conv=>whnf
 refine D9 (A0 ..) rfl (by omega) (A2 ..) ?_;conv=>whnf
 refine A7 (hBk _) ?_;conv=>whnf
 exact ⟨rfl,(D7.refl st).upd hb⟩
theorem A8Y (l:List Int) (h:J3 l) (st:St):S P 125 [A6 l] st fun v st'=>v=eI (A5 l)∧st'=st:=by
 have hn:=h.len
 refine A8 [] B8 mixed Tryz.func125 (by rfl) rfl rfl rfl ?_;conv=>whnf
 refine lp l.length [0,3,4] (fun i vs t=>vs=[A6 l,eI (A5 (l.take i)),eI i]∧t=st) ?_ ?_
 ·conv=>whnf
  exact ⟨rfl,rfl⟩
 ·rintro i vs t hi ⟨rfl,rfl⟩
  conv=>whnf
  cases h1:decide ((i:Int)<(l.length:Int))
  ·obtain rfl:=C6 h1 hi
   rw [List.take_length];conv=>whnf
   exact ⟨rfl,rfl⟩
  ·have hi':=E4 h1
   have hs:IntKind.i64.wrap (A5 (l.take i)+gI l (i:Int).toNat)=A5 (l.take (i+1)):=h.step hi'
   conv=>whnf
   refine ⟨rfl,⟨by omega,by omega⟩,?_⟩;conv=>whnf
   rw [hs]
   refine ⟨rfl,?_⟩;conv=>whnf
   exact nx hi' ⟨by rw [B9 (by omega)],rfl⟩
theorem C3j (q:A4f) (h1:J3 q.goods) (h2:J3 q.taxes) (st:St):S P 55 [A0l q] st fun v st'=>v=C3N (B3r q)∧st'=st:=by
 have c1:=fun s=>A8Y q.goods h1 s
 have c2:=fun s=>A8Y q.taxes h2 s
 have hB:B3r q=⟨A5 q.goods,A5 q.taxes,q.ship,q.shipTax,0⟩:=rfl
 rw [hB]
 generalize A5 q.goods=G at c1 ⊢
 generalize A5 q.taxes=T' at c2 ⊢
 refine A1u ?_
 refine A8 [1] B8 mixed Tryz.func55 (by rfl) rfl rfl rfl ?_;conv=>whnf
 intro b2 hb;conv=>whnf
 refine ⟨[11],[],List.range 12,by kernel_rfl,?_⟩;conv=>whnf
 refine ⟨_,D1 (c1 _),?_⟩;conv=>whnf
 refine ⟨_,D1 (c2 _),?_⟩;conv=>whnf
 refine G6 (A0 ..) rfl (by omega) rfl (by rfl) ?_;conv=>whnf
 refine D9 (A0 ..) rfl (by omega) (A2 ..) ?_;conv=>whnf
 exact ⟨rfl,((D7.refl st).upd hb).over hb⟩
theorem C2j (b:C4i):((b.goods==b.goods)&&((b.tax==b.tax)&&((b.ship==b.ship)&&((b.shipTax==b.shipTax)&&((b.fee==b.fee)&&true)))))=true:=by simp
def A8X:A4f:=⟨[],[],0,0,0,[]⟩
theorem A9C:Le (.tuple [.agg [.emp,.emp,eI 0,eI 0,eI 0,.emp],eI 7]) (.tuple [A0l A8X,eI 7]):=fun rd sz c h=>by
 have hl:F7 [AV.emp,.emp,eI 0,eI 0,eI 0,.emp] [A6 [],A6 [],eI 0,eI 0,eI 0,B2 2 A3i []]:=.cons (Le.emp _ _) (.cons (Le.emp _ _) (.cons (Le.refl _) (.cons (Le.refl _) (.cons (Le.refl _) (.cons (Le.emp _ _) .nil)))))
 cases h with
 | tuple cs vs hlen hg =>
  refine .tuple _ _ hlen fun j y c hy hc=>?_
  match j,hy with
  | 0,hy=>cases hy;exact (Le.agg hl) _ _ _ (hg 0 _ c rfl hc)
  | 1,hy=>cases hy;exact hg 1 _ c rfl hc
  | j+2,hy=>cases hy
theorem C2O {t:Z9} {z:K3} {s:D6} {cats:List D6} {nets:List Int} {ship:Int} (h:A0i t z cats nets ship) (hz:S4 t.zones s=none) (exempt:Bool) (st:St) :
  S P 122 [L7 t,eS s,eB exempt,D3 cats,A6 nets,eI ship] st fun v st'=>v=.tuple [.emp,.emp,eI 0,eI 0,eI 7]∧st'=st:=by
 obtain ⟨l1,l2⟩:=A5K h.tax
 have hM:=fun st=>B6S h st
 have hZ:∀ st,S P 212 [L7 t,eS s] st fun v st'=>v=.tuple [Q3 B7w,.bool false]∧st'=st:=fun st=>by
  have:=B0k t s (by omega) (fun z hz=>by have:=l2 z hz;omega) st
  rw [hz] at this;exact this
 refine A1u ?_
 refine A8 [6] B8 mixed Tryz.func122 (by rfl) rfl rfl rfl ?_;conv=>whnf
 refine A7 (hM _) ?_;conv=>whnf
 refine A7 (hZ _) ?_;conv=>whnf
 intro b17 hb17;conv=>whnf
 refine G6 (A0 ..) rfl (by omega) rfl (by rfl) ?_
 rw [B7];conv=>whnf
 exact ⟨rfl,(D7.refl st).upd hb17⟩
theorem C0R {t:Z9} {z:K3} {s:D6} {cats:List D6} {nets:List Int} {ship:Int} (h:A0i t z cats nets ship) (hsm:A8f t) (hz:S4 t.zones s=none) (exempt:Bool) (st:St) :
  S P 124 [L7 t,eS s,eB exempt,D3 cats,A6 nets,eI ship] st fun v st'=>v=.tuple [.agg [.emp,.emp,eI 0,eI 0],eI 7]∧st'=st:=by
 obtain ⟨l1,l2⟩:=A5K h.tax
 have hn:=h.nets.len
 have hns:=h.nets.sum
 have hnp:=h.nets.pos
 have hcl:=h.cats
 have hs:=h.ship
 have hT:∀ s,S P 161 [L7 t] s fun v st'=>v=.bool true∧st'=s:=fun s=>by
  have:=B5P t hsm s
  rw [h.tax] at this;exact this
 have hZ:∀ st,S P 217 [L7 t,eS s] st fun v st'=>v=.tuple [Q3 B7w,.bool false]∧st'=st:=fun st=>by
  have:=B1A t s (by omega) st
  rw [hz] at this;exact this
 refine A1u ?_
 refine B9p [6] B8 mixed Tryz.func124 (by rfl) rfl rfl rfl ?_;conv=>whnf
 intro b12 hb12;conv=>whnf
 refine A7 (hT _) ?_;conv=>whnf
 rw [hcl,show ((nets.length:Int) != (nets.length:Int))=false from bne_self_eq_false _];conv=>whnf
 rw [show decide ((nets.length:Int)>1000)=false from decide_eq_false (by omega)];conv=>whnf
 rw [show decide (ship<0)=false from decide_eq_false (by omega)];conv=>whnf
 rw [show decide (ship>10000000000000)=false from decide_eq_false (by omega)];conv=>whnf
 generalize hst:(upd st b12 _:St)=S0
 obtain ⟨f12,at12,hf12⟩:∃ f12:Nat→AV,S0 b12=some ⟨191,4,1,f12⟩∧f12 0=G9 B2I.zero:=by rw [←hst];exact ⟨_,A0 ..,rfl⟩
 have hs0:D7 st S0:=by rw [←hst];exact (D7.refl st).upd hb12
 clear hst
 refine lp nets.length [1,2,3,4,5,6,12,14,15] (fun i vs u=>vs=[eS s,eB exempt,D3 cats,A6 nets,eI ship,.fptr (L7 t) 0,.optr 4 b12 0 0,eI (A5 (nets.take i)),eI i]∧u=S0) ?_ ?_
 ·conv=>whnf
  exact ⟨rfl,rfl⟩
 rintro i vs u hi ⟨rfl,rfl⟩
 conv=>whnf
 cases h1:decide ((i:Int)<(nets.length:Int))
 case true =>
  have hi':=E4 h1
  have hx:0≤gI nets (i:Int).toNat:=hnp _ (B3 hi')
  have hs1:=J9 hnp (i+1)
  have hs2:0≤A5 (nets.take i):=C4 fun x hx=>hnp x (List.mem_of_mem_take hx)
  have hst:A5 (nets.take (i+1))=A5 (nets.take i)+gI nets (i:Int).toNat:=L3 hi'
  have hw1:IntKind.i64.wrap (10000000000000 - A5 (nets.take i))=10000000000000 - A5 (nets.take i):=A9 (by omega) (by omega)
  have hw2:IntKind.i64.wrap (A5 (nets.take i)+gI nets (i:Int).toNat)=A5 (nets.take (i+1)):=(A9 (by omega) (by omega)).trans hst.symm
  conv=>whnf
  refine ⟨rfl,⟨by omega,by omega⟩,?_⟩;conv=>whnf
  rw [show decide (nets.getD (i:Int).toNat default<0)=false from decide_eq_false (by show ¬ gI nets (i:Int).toNat<0;omega)];conv=>whnf
  refine ⟨rfl,⟨by omega,by omega⟩,?_⟩;conv=>whnf
  rw [hw1,show decide (nets.getD (i:Int).toNat default>10000000000000 - A5 (nets.take i))=false from decide_eq_false (by show ¬ gI nets (i:Int).toNat>_;omega)];conv=>whnf
  refine ⟨rfl,⟨by omega,by omega⟩,?_⟩;conv=>whnf
  rw [hw2]
  refine ⟨rfl,?_⟩;conv=>whnf
  exact nx hi' ⟨by rw [B9 (by omega)],rfl⟩
 obtain rfl:=C6 h1 hi
 conv=>whnf
 refine A7 (hZ _) ?_;conv=>whnf
 intro b16 hb16
 have h1216:b12≠b16:=fun e=>by subst e;rw [at12] at hb16;cases hb16
 conv=>whnf
 refine G6 (A0 ..) rfl (by omega) rfl (by rfl) ?_
 rw [B7];conv=>whnf
 refine G6 ((A4 h1216).trans at12) rfl (by omega) hf12 (by rfl) ?_;conv=>whnf
 refine D9 (A0 ..) rfl (by omega) (A2 ..) ?_;conv=>whnf
 exact ⟨rfl,(hs0.upd hb16).over hb12⟩
set_option maxHeartbeats 8000000 in
theorem C0M {r:I4} {codes:List D6} {l:List G4} {Pr:A2e} {z:K3} {zone:D6} (exempt:Bool)
  (hP:∀ st,S P 20 [H6 r,D3 codes,B2 3 H2 l] st fun v s=>v=.tuple [T1 Pr,eI 0]∧s=st)
  (hI:∀ st,S P 82 [B2 4 F1 r.items,B2 3 H2 l] st fun v s=>v=B2 4 F1 (C2 r.items l)∧s=st)
  (hln:l.length≤1000) (hV:A0i r.tax z (J7 r l) Pr.nets Pr.ship) (hz:S4 r.tax.zones zone=none) (st:St) :
  S P 51 [H6 r,eS zone,eB exempt,D3 codes,B2 3 H2 l] st fun v st'=>v=.tuple [A0l A8X,eI 7]∧st'=st:=by
 have hlv:=fun s=>C2O hV hz exempt s
 have hil:(C2 r.items l).length=l.length:=List.length_map ..
 have hcb:J7 r l=(C2 r.items l).map Ab.Item.cat:=rfl
 rw [hcb] at hlv
 generalize C2 r.items l=IT at hI hil hlv
 clear hcb hV
 refine S.post (post:=fun v s'=>v=.tuple [.agg [.emp,.emp,eI 0,eI 0,eI 0,.emp],eI 7]∧D7 st s') ?_ (fun v s' ⟨h1,h2⟩=>⟨_,st,⟨rfl,rfl⟩,by rw [h1];exact (A9C.shift _).trans (h2.shift _)⟩)
 refine A8 [5,16] B8 mixed Tryz.func51 (by rfl) rfl rfl rfl ?_;conv=>whnf
 intro b10 hb10;conv=>whnf
 refine A7 (hP _) ?_;conv=>whnf
 intro b12 hb12
 have h02:b10≠b12:=fun e=>by subst e;rw [A0] at hb12;cases hb12
 conv=>whnf
 refine G6 (A0 ..) rfl (by omega) rfl (by rfl) ?_
 rw [B7];conv=>whnf
 refine A7 (hI _) ?_;conv=>whnf
 generalize hst:(upd (upd st b10 _) b12 _:St)=S0
 obtain ⟨f12,at12,hf12⟩:∃ f12:Nat→AV,S0 b12=some ⟨44,4,1,f12⟩∧f12 0=T1 Pr:=by rw [←hst];exact ⟨_,A0 ..,by rw [A2];rfl⟩
 obtain ⟨f10,at10,hf10⟩:∃ f10:Nat→AV,S0 b10=some ⟨99,6,1,f10⟩∧f10 0=G9 r99.zero:=by rw [←hst,A4 h02];exact ⟨_,A0 ..,rfl⟩
 have hs0:D7 st S0:=by rw [←hst];exact ((D7.refl st).upd hb10).upd hb12
 have n12:st b12=none:=by rw [A4 h02.symm] at hb12;exact hb12
 clear hst
 refine lp IT.length [1,2,5,10,12,14,35,36,37] (fun i vs u=>∃ sv,vs=[eS zone,eB exempt,.fptr (H6 r) 0,.optr 6 b10 0 0,.optr 4 b12 0 0,sv,B2 4 F1 IT,eI IT.length,eI i]∧F2 9 1 eS ((IT.take i).map Ab.Item.cat) S0 sv u) ?_ ?_
 ·conv=>whnf
  exact ⟨.emp,rfl,F2.start _ _ _ _⟩
 rintro i vs u hi ⟨sv,rfl,hc⟩
 have hcs:=hc.sup
 conv=>whnf
 cases h1:decide ((i:Int)<(IT.length:Int))
 case true =>
  have hi':=E4 h1
  have hln2:((IT.take i).map Ab.Item.cat).length=i:=by rw [List.length_map,List.length_take];omega
  have htk:(IT.take (i+1)).map Ab.Item.cat=(IT.take i).map Ab.Item.cat++[(IT.getD (i:Int).toNat default).cat]:=by rw [I6 hi',List.map_append];rfl
  conv=>whnf
  refine ⟨rfl,⟨by omega,by omega⟩,?_⟩;conv=>whnf
  refine F2.app (y:=(IT.getD (i:Int).toNat default).cat) (q:=r9) rfl rfl rfl rfl rfl (by rfl) (by rw [hln2];show (i+1) * 16≤140737488355328;omega) hc (fun sv' t' hc'=>?_);conv=>whnf
  refine ⟨rfl,?_⟩;conv=>whnf
  exact nx hi' ⟨sv',by rw [B9 (by omega)],by rw [htk];exact hc'⟩
 obtain rfl:=C6 h1 hi
 rw [List.take_length] at hc;conv=>whnf
 refine D9 (hcs b12 _ at12) rfl (by omega) hf12 ?_;conv=>whnf
 refine D9 (hcs b12 _ at12) rfl (by omega) hf12 ?_;conv=>whnf
 have hTS:B0 [L7 r.tax,eS zone,eB exempt,sv,A6 Pr.nets,eI Pr.ship] u [L7 r.tax,eS zone,eB exempt,D3 (IT.map Ab.Item.cat),A6 Pr.nets,eI Pr.ship] S0 :=
  B0.cons (B0.keep [L7 r.tax] _) (B0.cons (B0.keep [eS zone] _) (B0.cons (B0.keep [eB exempt] _) (B0.cons hc.shift (B0.keep _ _))))
 refine F3 hTS (A7 (hlv _) ?_);conv=>whnf
 refine G6 at10 rfl (by omega) hf10 (by rfl) ?_;conv=>whnf
 refine D9 (A0 ..) rfl (by omega) (A2 ..) ?_;conv=>whnf
 exact ⟨rfl,hs0.over hb10⟩
set_option maxHeartbeats 8000000 in
theorem C0T {r:I4} {codes:List D6} {l:List G4} {Pr:A2e} {z:K3} {zone:D6} (exempt:Bool)
  (hP:∀ st,S P 21 [H6 r,D3 codes,B2 3 H2 l] st fun v s=>v=.tuple [T1 Pr,eI 0]∧s=st)
  (hI:∀ st,S P 95 [B2 4 F1 r.items,B2 3 H2 l] st fun v s=>v=B2 4 F1 (C2 r.items l)∧s=st)
  (hln:l.length≤1000) (hV:A0i r.tax z (J7 r l) Pr.nets Pr.ship) (hsm:A8f r.tax) (hz:S4 r.tax.zones zone=some z) (st:St) :
  S P 52 [H6 r,eS zone,eB exempt,D3 codes,B2 3 H2 l] st fun v st'=>v=.tuple [A0l (A8a r z exempt l Pr),eI 0]∧st'=st:=by
 have hQ:=B2o hV exempt Pr.deals
 have hlv:=fun s=>C3g hV hsm hz exempt s
 have hq:A8a r z exempt l Pr=⟨(K9 r.tax z exempt (J7 r l) Pr.nets Pr.ship).goods,(K9 r.tax z exempt (J7 r l) Pr.nets Pr.ship).taxes,(K9 r.tax z exempt (J7 r l) Pr.nets Pr.ship).ship,(K9 r.tax z exempt (J7 r l) Pr.nets Pr.ship).shipTax,A5 (K9 r.tax z exempt (J7 r l) Pr.nets Pr.ship).goods+A5 (K9 r.tax z exempt (J7 r l) Pr.nets Pr.ship).taxes+(K9 r.tax z exempt (J7 r l) Pr.nets Pr.ship).ship+(K9 r.tax z exempt (J7 r l) Pr.nets Pr.ship).shipTax,Pr.deals⟩:=rfl
 rw [hq]
 obtain ⟨q1,q2,q3,q4,q5,q6,q7,_⟩:=hQ
 have q1:J3 (K9 r.tax z exempt (J7 r l) Pr.nets Pr.ship).goods:=q1
 have q2:J3 (K9 r.tax z exempt (J7 r l) Pr.nets Pr.ship).taxes:=q2
 have q6:0≤(K9 r.tax z exempt (J7 r l) Pr.nets Pr.ship).ship∧(K9 r.tax z exempt (J7 r l) Pr.nets Pr.ship).ship≤10000000000000:=q6
 have q7:0≤(K9 r.tax z exempt (J7 r l) Pr.nets Pr.ship).shipTax∧(K9 r.tax z exempt (J7 r l) Pr.nets Pr.ship).shipTax≤10000000000000:=q7
 clear hq q3 q4 q5 hV hz
 generalize K9 r.tax z exempt (J7 r l) Pr.nets Pr.ship=V at *
 have s1:=fun s=>A8Y V.goods q1 s
 have s2:=fun s=>A8Y V.taxes q2 s
 have g1:=q1.sum
 have g2:=q2.sum
 have w1:IntKind.i64.wrap (A5 V.goods+A5 V.taxes)=A5 V.goods+A5 V.taxes:=A9 (by omega) (by omega)
 have w2:IntKind.i64.wrap (A5 V.goods+A5 V.taxes+V.ship)=A5 V.goods+A5 V.taxes+V.ship:=A9 (by omega) (by omega)
 have w3:IntKind.i64.wrap (A5 V.goods+A5 V.taxes+V.ship+V.shipTax)=A5 V.goods+A5 V.taxes+V.ship+V.shipTax:=A9 (by omega) (by omega)
 have hil:(C2 r.items l).length=l.length:=List.length_map ..
 have hcb:J7 r l=(C2 r.items l).map Ab.Item.cat:=rfl
 rw [hcb] at hlv
 generalize C2 r.items l=IT at hI hil hlv
 clear hcb
 refine A1u ?_
 refine A8 [5] B8 mixed Tryz.func52 (by rfl) rfl rfl rfl ?_;conv=>whnf
 intro b10 hb10;conv=>whnf
 refine A7 (hP _) ?_;conv=>whnf
 intro b12 hb12
 have h02:b10≠b12:=fun e=>by subst e;rw [A0] at hb12;cases hb12
 conv=>whnf
 refine G6 (A0 ..) rfl (by omega) rfl (by rfl) ?_
 rw [B7];conv=>whnf
 refine A7 (hI _) ?_;conv=>whnf
 generalize hst:(upd (upd st b10 _) b12 _:St)=S0
 obtain ⟨f12,at12,hf12⟩:∃ f12:Nat→AV,S0 b12=some ⟨44,4,1,f12⟩∧f12 0=T1 Pr:=by rw [←hst];exact ⟨_,A0 ..,by rw [A2];rfl⟩
 obtain ⟨f10,at10,hf10⟩:∃ f10:Nat→AV,S0 b10=some ⟨99,6,1,f10⟩∧f10 0=G9 r99.zero:=by rw [←hst,A4 h02];exact ⟨_,A0 ..,rfl⟩
 have hs0:D7 st S0:=by rw [←hst];exact ((D7.refl st).upd hb10).upd hb12
 have n12:st b12=none:=by rw [A4 h02.symm] at hb12;exact hb12
 clear hst
 refine lp IT.length [1,2,5,10,12,14,15,16] (fun i vs u=>∃ sv,vs=[eS zone,eB exempt,.fptr (H6 r) 0,.optr 6 b10 0 0,.optr 4 b12 0 0,B2 4 F1 IT,sv,eI i]∧F2 9 1 eS ((IT.take i).map Ab.Item.cat) S0 sv u) ?_ ?_
 ·conv=>whnf
  exact ⟨.emp,rfl,F2.start _ _ _ _⟩
 rintro i vs u hi ⟨sv,rfl,hc⟩
 have hcs:=hc.sup
 conv=>whnf
 cases h1:decide ((i:Int)<(IT.length:Int))
 case true =>
  have hi':=E4 h1
  have hln2:((IT.take i).map Ab.Item.cat).length=i:=by rw [List.length_map,List.length_take];omega
  have htk:(IT.take (i+1)).map Ab.Item.cat=(IT.take i).map Ab.Item.cat++[(IT.getD (i:Int).toNat default).cat]:=by rw [I6 hi',List.map_append];rfl
  conv=>whnf
  refine ⟨rfl,⟨by omega,by omega⟩,?_⟩;conv=>whnf
  refine F2.app (y:=(IT.getD (i:Int).toNat default).cat) (q:=r9) rfl rfl rfl rfl rfl (by rfl) (by rw [hln2];show (i+1) * 16≤140737488355328;omega) hc (fun sv' t' hc'=>?_);conv=>whnf
  refine ⟨rfl,?_⟩;conv=>whnf
  exact nx hi' ⟨sv',by rw [B9 (by omega)],by rw [htk];exact hc'⟩
 obtain rfl:=C6 h1 hi
 rw [List.take_length] at hc;conv=>whnf
 refine D9 (hcs b12 _ at12) rfl (by omega) hf12 ?_;conv=>whnf
 refine D9 (hcs b12 _ at12) rfl (by omega) hf12 ?_;conv=>whnf
 have hTS:B0 [L7 r.tax,eS zone,eB exempt,sv,A6 Pr.nets,eI Pr.ship] u [L7 r.tax,eS zone,eB exempt,D3 (IT.map Ab.Item.cat),A6 Pr.nets,eI Pr.ship] S0 :=
  B0.cons (B0.keep [L7 r.tax] _) (B0.cons (B0.keep [eS zone] _) (B0.cons (B0.keep [eB exempt] _) (B0.cons hc.shift (B0.keep _ _))))
 refine F3 hTS (A7 (hlv _) ?_);conv=>whnf
 intro b17 hb17
 have h12n:b12≠b17:=fun e=>by subst e;rw [at12] at hb17;cases hb17
 have h10n:b10≠b17:=fun e=>by subst e;rw [at10] at hb17;cases hb17
 conv=>whnf
 refine G6 (A0 ..) rfl (by omega) rfl (by rfl) ?_
 rw [B7];conv=>whnf
 generalize hst:(upd S0 b17 _:St)=S1
 obtain ⟨f17,at17,hf17⟩:∃ f17:Nat→AV,S1 b17=some ⟨191,4,1,f17⟩∧f17 0=B6I V:=by rw [←hst];exact ⟨_,A0 ..,by rw [A2];rfl⟩
 have at12':S1 b12=some ⟨44,4,1,f12⟩:=by rw [←hst,A4 h12n];exact at12
 have at10':S1 b10=some ⟨99,6,1,f10⟩:=by rw [←hst,A4 h10n];exact at10
 have hs1:D7 st S1:=by rw [←hst];exact hs0.upd hb17
 clear hst
 refine ⟨[24],[],List.range 26,by kernel_rfl,?_⟩
 repeat' ((conv=>whnf);first | refine D9 at17 rfl (by omega) hf17 ?_ | refine D9 at12' rfl (by omega) hf12 ?_ | refine ⟨_,D1 (s1 _),?_⟩ | refine ⟨_,D1 (s2 _),?_⟩)
 all_goals
  conv=>whnf
  rw [w1,w2,w3]
  refine G6 at10' rfl (by omega) hf10 (by rfl) ?_;conv=>whnf
  refine D9 (A0 ..) rfl (by omega) (A2 ..) ?_;conv=>whnf
  exact ⟨rfl,hs1.over hb10⟩
set_option maxHeartbeats 8000000 in
theorem B8w {r:I4} {codes:List D6} {l:List G4} {Pr:A2e} {z:K3} {zone:D6} (exempt:Bool)
  (hP:∀ st,S P 21 [H6 r,D3 codes,B2 3 H2 l] st fun v s=>v=.tuple [T1 Pr,eI 0]∧s=st)
  (hI:∀ st,S P 95 [B2 4 F1 r.items,B2 3 H2 l] st fun v s=>v=B2 4 F1 (C2 r.items l)∧s=st)
  (hln:l.length≤1000) (hV:A0i r.tax z (J7 r l) Pr.nets Pr.ship) (hsm:A8f r.tax) (hz:S4 r.tax.zones zone=none) (st:St) :
  S P 52 [H6 r,eS zone,eB exempt,D3 codes,B2 3 H2 l] st fun v st'=>v=.tuple [A0l A8X,eI 7]∧st'=st:=by
 have hlv:=fun s=>C0R hV hsm hz exempt s
 have hil:(C2 r.items l).length=l.length:=List.length_map ..
 have hcb:J7 r l=(C2 r.items l).map Ab.Item.cat:=rfl
 rw [hcb] at hlv
 generalize C2 r.items l=IT at hI hil hlv
 clear hcb hV
 refine S.post (post:=fun v s'=>v=.tuple [.agg [.emp,.emp,eI 0,eI 0,eI 0,.emp],eI 7]∧D7 st s') ?_ (fun v s' ⟨h1,h2⟩=>⟨_,st,⟨rfl,rfl⟩,by rw [h1];exact (A9C.shift _).trans (h2.shift _)⟩)
 refine A8 [5] B8 mixed Tryz.func52 (by rfl) rfl rfl rfl ?_;conv=>whnf
 intro b10 hb10;conv=>whnf
 refine A7 (hP _) ?_;conv=>whnf
 intro b12 hb12
 have h02:b10≠b12:=fun e=>by subst e;rw [A0] at hb12;cases hb12
 conv=>whnf
 refine G6 (A0 ..) rfl (by omega) rfl (by rfl) ?_
 rw [B7];conv=>whnf
 refine A7 (hI _) ?_;conv=>whnf
 generalize hst:(upd (upd st b10 _) b12 _:St)=S0
 obtain ⟨f12,at12,hf12⟩:∃ f12:Nat→AV,S0 b12=some ⟨44,4,1,f12⟩∧f12 0=T1 Pr:=by rw [←hst];exact ⟨_,A0 ..,by rw [A2];rfl⟩
 obtain ⟨f10,at10,hf10⟩:∃ f10:Nat→AV,S0 b10=some ⟨99,6,1,f10⟩∧f10 0=G9 r99.zero:=by rw [←hst,A4 h02];exact ⟨_,A0 ..,rfl⟩
 have hs0:D7 st S0:=by rw [←hst];exact ((D7.refl st).upd hb10).upd hb12
 have n12:st b12=none:=by rw [A4 h02.symm] at hb12;exact hb12
 clear hst
 refine lp IT.length [1,2,5,10,12,14,15,16] (fun i vs u=>∃ sv,vs=[eS zone,eB exempt,.fptr (H6 r) 0,.optr 6 b10 0 0,.optr 4 b12 0 0,B2 4 F1 IT,sv,eI i]∧F2 9 1 eS ((IT.take i).map Ab.Item.cat) S0 sv u) ?_ ?_
 ·conv=>whnf
  exact ⟨.emp,rfl,F2.start _ _ _ _⟩
 rintro i vs u hi ⟨sv,rfl,hc⟩
 have hcs:=hc.sup
 conv=>whnf
 cases h1:decide ((i:Int)<(IT.length:Int))
 case true =>
  have hi':=E4 h1
  have hln2:((IT.take i).map Ab.Item.cat).length=i:=by rw [List.length_map,List.length_take];omega
  have htk:(IT.take (i+1)).map Ab.Item.cat=(IT.take i).map Ab.Item.cat++[(IT.getD (i:Int).toNat default).cat]:=by rw [I6 hi',List.map_append];rfl
  conv=>whnf
  refine ⟨rfl,⟨by omega,by omega⟩,?_⟩;conv=>whnf
  refine F2.app (y:=(IT.getD (i:Int).toNat default).cat) (q:=r9) rfl rfl rfl rfl rfl (by rfl) (by rw [hln2];show (i+1) * 16≤140737488355328;omega) hc (fun sv' t' hc'=>?_);conv=>whnf
  refine ⟨rfl,?_⟩;conv=>whnf
  exact nx hi' ⟨sv',by rw [B9 (by omega)],by rw [htk];exact hc'⟩
 obtain rfl:=C6 h1 hi
 rw [List.take_length] at hc;conv=>whnf
 refine D9 (hcs b12 _ at12) rfl (by omega) hf12 ?_;conv=>whnf
 refine D9 (hcs b12 _ at12) rfl (by omega) hf12 ?_;conv=>whnf
 have hTS:B0 [L7 r.tax,eS zone,eB exempt,sv,A6 Pr.nets,eI Pr.ship] u [L7 r.tax,eS zone,eB exempt,D3 (IT.map Ab.Item.cat),A6 Pr.nets,eI Pr.ship] S0 :=
  B0.cons (B0.keep [L7 r.tax] _) (B0.cons (B0.keep [eS zone] _) (B0.cons (B0.keep [eB exempt] _) (B0.cons hc.shift (B0.keep _ _))))
 refine F3 hTS (A7 (hlv _) ?_);conv=>whnf
 intro b17 hb17
 have h12n:b12≠b17:=fun e=>by subst e;rw [at12] at hb17;cases hb17
 have h10n:b10≠b17:=fun e=>by subst e;rw [at10] at hb17;cases hb17
 conv=>whnf
 refine G6 (A0 ..) rfl (by omega) rfl (by rfl) ?_
 rw [B7];conv=>whnf
 refine G6 ((A4 h10n).trans at10) rfl (by omega) hf10 (by rfl) ?_;conv=>whnf
 refine D9 (A0 ..) rfl (by omega) (A2 ..) ?_;conv=>whnf
 exact ⟨rfl,(hs0.upd hb17).over hb10⟩
theorem B5G (es:List QE):∃ c1 c2 is,C0E es=.tuple [eI c1,eI c2,.bool is]:=by
 cases es with
 | nil=>exact ⟨0,0,false,rfl⟩
 | cons y es=>exact ⟨y.1,y.2,true,rfl⟩
theorem A7U {c1 c2 d1 d2:Int} {is js:Bool} (h:AV.tuple [eI c1,eI c2,.bool is]=.tuple [eI d1,eI d2,.bool js]):c1=d1∧c2=d2∧is=js:=by
 injection h with h;injection h with h1 h;injection h with h2 h;injection h with h3 h
 injection h1 with _ h1;injection h2 with _ h2;injection h3 with h3
 exact ⟨h1,h2,h3⟩
set_option maxHeartbeats 8000000 in
theorem B7E (t:Z9) (rates nets:List Int) (hn:A3E nets) (hr:rates.length=nets.length) (hq:∀ x∈rates,0≤x∧x≤10000) (st:St) :
  S P 215 [L7 t,A6 rates,A6 nets] st fun v st'=>v=A6 (F5 t rates nets)∧st'=st:=by
 have hnl:=hn.len
 have hol:(F5 t rates nets).length=nets.length:=by unfold F5;rw [List.length_map,List.length_range]
 refine S.post (post:=fun v s=>∃ bo,v=.own 1 bo 0 nets.length∧st bo=none∧(∃ y,IsL (F5 t rates nets) y∧s bo=some y)∧D7 st s) ?_ (fun v s ⟨bo,h1,h2,⟨y,⟨f,hy,hf⟩,hb⟩,h4⟩=>⟨_,st,⟨rfl,rfl⟩,by
  subst hy;rw [h1]
  have e:A6 (F5 t rates nets)=.arr 1 nets.length (fun i=>eI (gI (F5 t rates nets) i)):=by unfold A6 B2;rw [hol]
  rw [e]
  exact (G0 hb rfl (by show nets.length≤(F5 t rates nets).length;omega) (fun i hi=>hf i (by omega))).trans ((D7.del h4 h2).shift _)⟩)
 refine A8 [3] B8 mixed Tryz.func215 (by rfl) rfl rfl rfl ?_;conv=>whnf
 refine mkO rfl rfl rfl (by show 8 * nets.length≤_;omega) (by omega) (by rfl) (fun bo hbo=>?_);conv=>whnf
 refine call (B0a _) (fun v s hv=>?_)
 obtain ⟨q,rfl,hQ⟩:=hv
 conv=>whnf
 refine lp rates.length [2,3,7,8,28,29,30] (fun i vs s=>vs=[A6 nets,.fptr (L7 t) 0,.own 1 bo 0 nets.length,.optr 1 q 0 0,A6 rates,eI rates.length,eI i]∧QSt (upd st bo ⟨2,1,nets.length,fun _=>G9 r2.zero⟩) q true ((List.range i).map (B9W rates)) s) ?_ ?_
 ·conv=>whnf
  exact ⟨rfl,hQ⟩
 clear hQ s
 rintro i vs s hi ⟨rfl,hQ⟩
 conv=>whnf
 cases h1:decide ((i:Int)<(rates.length:Int))
 case true =>
  have hi':=E4 h1
  have hx:=hq (gI rates (i:Int).toNat) (B3 hi')
  have hw:IntKind.i64.wrap (0 - rates.getD (i:Int).toNat default) = -(gI rates (i:Int).toNat):=(A9 (show _≤0 - gI rates (i:Int).toNat by omega) (show 0 - gI rates (i:Int).toNat≤_ by omega)).trans (by show 0 - gI rates (i:Int).toNat=_;omega)
  conv=>whnf
  refine ⟨rfl,⟨by omega,by omega⟩,?_⟩;conv=>whnf
  rw [hw]
  refine call (A7i _ q _ _ _ _ hQ (by rw [List.length_map,List.length_range];omega)) (fun v s' hv=>?_)
  obtain ⟨rfl,hQ2⟩:=hv
  conv=>whnf
  refine ⟨rfl,?_⟩;conv=>whnf
  exact nx hi' ⟨by rw [B9 (by omega)],by rw [List.range_succ,List.map_append];exact hQ2⟩
 obtain rfl:=C6 h1 hi
 have hQ2:=QSt.perm hQ (A4c rates).symm
 clear hQ
 conv=>whnf
 refine ⟨[2,3,7,8],fun m vs u=>∃ (D:Int→Bool) (fl:Bool) (L:List Int),m=(A0M rates D).length∧vs=[A6 nets,.fptr (L7 t) 0,.own 1 bo 0 nets.length,.optr 1 q 0 0]∧B1m t rates nets D L∧OQ bo q L fl (A0M rates D) st u,?_,?_⟩
 ·conv=>whnf
  exact ⟨_,fun _=>false,true,List.replicate nets.length 0,rfl,rfl,⟨List.length_replicate,fun i hi=>by
   rw [if_neg (by simp)];unfold gI
   rw [List.getD_eq_getElem?_getD,List.getElem?_replicate];split<;>rfl⟩,hbo,_,⟨fun _=>G9 r2.zero,by rw [List.length_replicate],fun i hi=>by
   unfold gI;rw [List.getD_eq_getElem?_getD,List.getElem?_replicate];split<;>rfl⟩,by rw [B3J];exact hQ2⟩
 clear hQ2
 rintro m vs u ⟨D,fl,L,rfl,rfl,hdone,hb0,y,hy,hQ3⟩
 conv=>whnf
 refine A7 (A7Y _ q fl _ _ hQ3) ?_
 cases hE:A0M rates D with
 | nil =>
  conv=>whnf
  have hL:=B9U hdone hr hE
  rw [hE] at hQ3
  exact ⟨bo,rfl,hb0,⟨y,by rw [←hL];exact hy,hQ3.sup bo _ (A0 ..)⟩,D7.drop hQ3.sup hb0⟩
 | cons x E =>
  obtain ⟨hD,hEq⟩:=B5t hE
  obtain ⟨i0,hi0,hi0m,hi0r⟩:=B8a hE
  have hsort:=A6V rates D
  have hkey:∀ y∈A0M rates (fun z=>D z||z==x.1),(y.1==x.1)=false:=B2m
  have hmeas:(A0M rates (fun z=>D z||z==x.1)).length<E.length+1:=by
   have h1:=congrArg List.length hEq
   rw [List.length_append,List.length_map,List.length_cons] at h1
   have h2:0<(K0 rates x.1).length:=List.length_pos_of_mem hi0m
   omega
  have hnext:=B1n (k:=x.1) hdone hr
  have hparts:(A1I t rates nets x.1).length=(K0 rates x.1).length∧∀ st,S P 284 [eI (B6 t (A5 ((K0 rates x.1).map (gI nets))) (-x.1)),A6 ((K0 rates x.1).map (gI nets))] st fun v st'=>v=.tuple [A6 (A1I t rates nets x.1),eI 0]∧st'=st:=by
   have hw:=A1R (t:=t) hn hr (i:=i0) (hq (gI rates i0) (B3 hi0))
   have e:I1 rates nets i0=(K0 rates x.1).map (gI nets):=by unfold I1;rw [(Y4 hi0m).2.2]
   rw [e,hi0r] at hw
   have h3:=(Q4 hw).2.1
   refine ⟨by unfold A1I;rw [h3,List.length_map],fun st=>?_⟩
   exact A7O _ _ hw st
  have hGok:=fun j=>C3S (rates:=rates) (k:=x.1) (j:=j)
  have hrate:0≤-x.1∧-x.1≤10000:=by rw [←hi0r];exact hq (gI rates i0) (B3 hi0)
  have hGl:(K0 rates x.1).length≤1000:=by
   have:(K0 rates x.1).length≤(List.range rates.length).length:=List.length_filter_le _ _
   rw [List.length_range] at this;omega
  have hgsum:0≤A5 ((K0 rates x.1).map (gI nets)):=C4 fun v hv=>by
   obtain ⟨j,hj,rfl⟩:=List.mem_map.1 hv
   exact hn.pos _ (B3 (by have:=(Y4 hj).2.1;omega))
  have hgs:∀ j,j≤(K0 rates x.1).length→0≤A5 (((K0 rates x.1).take j).map (gI nets))∧A5 (((K0 rates x.1).take j).map (gI nets))≤10000000000000:=fun j hj=>by
   have hsub:(((K0 rates x.1).take j).map (gI nets)).Sublist nets:=by
    have h1:(((K0 rates x.1).take j).map (gI nets)).Sublist ((List.range nets.length).map (gI nets)):=by
     refine List.Sublist.map _ ((List.take_sublist _ _).trans ?_)
     unfold K0;rw [hr];exact List.filter_sublist
    rw [A4Y] at h1;exact h1
   have h2:=B0u hsub hn.pos
   have h3:=hn.sum
   exact ⟨C4 fun v hv=>hn.pos v (hsub.subset hv),by omega⟩
  rw [hE] at hQ3 hsort
  have hQ0:x::E=QJ (K0 rates x.1) x.1 (A0M rates (fun z=>D z||z==x.1)) 0:=hEq
  generalize K0 rates x.1=G at *
  generalize hRest:A0M rates (fun z=>D z||z==x.1)=Rest at *
  generalize A1I t rates nets x.1=X at *
  clear hEq
  conv=>whnf
  rw [show decide ((((x::E).length:Nat):Int)>0)=true by rw [decide_eq_true_eq,List.length_cons];omega];conv=>whnf
  refine A7 (B2H _ q fl x E _ hQ3 (List.pairwise_cons.1 hsort).1) ?_;conv=>whnf
  refine A7 (B2H _ q fl x E _ hQ3 (List.pairwise_cons.1 hsort).1) ?_;conv=>whnf
  have hsortQ:∀ j,j≤G.length→(QJ G x.1 Rest j).Pairwise fun a b=>G7 b a=false:=fun j hj=>by
   rw [hQ0] at hsort
   refine List.Pairwise.sublist ?_ hsort
   unfold QJ
   rw [List.drop_zero]
   exact List.Sublist.append ((List.drop_sublist j G).map _) (List.Sublist.refl _)
  refine lp G.length [2,3,7,8,11,14,15,16,17,18,19] (fun j vs u=>∃ (fl:Bool) (lv wv:AV) (c1 c2:Int) (is:Bool),vs=[A6 nets,.fptr (L7 t) 0,.own 1 bo 0 nets.length,.optr 1 q 0 0,eI x.1,lv,wv,eI (A5 ((G.take j).map (gI nets))),eI c1,eI c2,.bool is]∧C0E (QJ G x.1 Rest j)=.tuple [eI c1,eI c2,.bool is]∧ROut (fun s t=>ROut (OQ bo q L fl (QJ G x.1 Rest j)) 3 1 (fun i=>eI (gN G i)) j s lv t) 2 1 (fun i=>eI (gI (G.map (gI nets)) i)) j st wv u) ?_ ?_
  ·conv=>whnf
   exact ⟨fl,.emp,.emp,x.1,x.2,true,rfl,by rw [←hQ0];rfl,ROut.start (show ROut _ _ _ _ 0 st .emp u from ROut.start (show OQ bo q L fl (QJ G x.1 Rest 0) st u from ⟨hb0,y,hy,by rw [←hQ0];exact hQ3⟩) _ _ _) _ _ _⟩
  rintro j vs w hj ⟨fl2,lv,wv,c1,c2,is,rfl,hpk,hR⟩
  by_cases hjl:j<G.length
  ·have hQn:=C2b (G:=G) (k:=x.1) (Rest:=Rest) hjl
   rw [hQn] at hpk
   obtain ⟨rfl,rfl,rfl⟩:=A7U hpk
   have hGj:=hGok j hjl
   have hxn:0≤gI nets (gN G j).toNat∧gI nets (gN G j).toNat≤A5 nets:=⟨hn.pos _ (B3 (by omega)),I5 hn.pos (B3 (by omega))⟩
   have hns:=hn.sum
   have hg1:=hgs j hj
   have hg2:=hgs (j+1) hjl
   have hgt:((G.take (j+1)).map (gI nets))=((G.take j).map (gI nets))++[gI nets (gN G j).toNat]:=by
    rw [List.take_succ_eq_append_getElem hjl,List.map_append]
    have:(gN G j).toNat=G[j]:=by show (((G.getD j 0:Nat):Int)).toNat=_;rw [List.getD_eq_getElem?_getD,List.getElem?_eq_getElem hjl];rfl
    rw [this];rfl
   have hgm:gI (G.map (gI nets)) j=nets.getD (gN G j).toNat default:=by
    unfold gI
    rw [List.getD_eq_getElem?_getD,List.getElem?_map,List.getElem?_eq_getElem hjl]
    have:(gN G j).toNat=G[j]:=by show (((G.getD j 0:Nat):Int)).toNat=_;rw [List.getD_eq_getElem?_getD,List.getElem?_eq_getElem hjl];rfl
    rw [this];rfl
   have hsum:IntKind.i64.wrap (A5 ((G.take j).map (gI nets))+nets.getD (gN G j).toNat default)=A5 ((G.take (j+1)).map (gI nets)):=by
    rw [hgt,G1] at hg2 ⊢
    have e1:A5 [gI nets (gN G j).toNat]=gI nets (gN G j).toNat:=by rw [K1];exact Int.add_zero _
    rw [e1] at hg2 ⊢
    exact A9 (show _≤A5 ((G.take j).map (gI nets))+gI nets (gN G j).toNat by omega) (show A5 ((G.take j).map (gI nets))+gI nets (gN G j).toNat≤_ by omega)
   conv=>whnf
   rw [show (x.1==x.1)=true from beq_self_eq_true _];conv=>whnf
   obtain ⟨s0,hw0,s1,hl0,hb1,y1,hy1,hq1⟩:=hR
   rw [hQn] at hq1
   have hsj:=hsortQ j hj
   rw [hQn] at hsj
   refine call (A7Z _ q fl2 (x.1,gN G j) (QJ G x.1 Rest (j+1)) _ hq1 (List.pairwise_cons.1 hsj).1) (fun v w' hv=>?_)
   obtain ⟨rfl,hq2⟩:=hv
   have hin:ROut (OQ bo q L false (QJ G x.1 Rest (j+1))) 3 1 (fun i=>eI (gN G i)) j s0 lv w':=⟨s1,hl0,hb1,y1,hy1,hq2⟩
   have hwv:wv=.emp∨∃ b,wv=.own 1 b 0 j:=ROut.head (show ROut (fun s t=>ROut (OQ bo q L false (QJ G x.1 Rest (j+1))) 3 1 (fun i=>eI (gN G i)) j s lv t) 2 1 (fun i=>eI (gI (G.map (gI nets)) i)) j st wv w' from ⟨s0,hw0,hin⟩)
   have hlv:=ROut.head hin
   obtain ⟨d1,d2,js,hpk2⟩:=B5G (QJ G x.1 Rest (j+1))
   have hB1:=A9o bo q L false (QJ G x.1 Rest (j+1))
   rcases hlv with rfl | ⟨bl,rfl⟩<;>rcases hwv with rfl | ⟨bw,rfl⟩
   all_goals
    conv=>whnf
    refine ⟨[2,3,8,9,10],[],[],.qui 0 (.qui 1 (.qui 4 (.qui 5 (.qui 6 (.qui 7 (.two 2 8 (.two 3 8 (.gen 8 (.gen 9 (.gen 10 (.qui 11 (.qui 12 .done))))) (.two 3 9 (.gen 9 (.gen 10 (.qui 11 (.qui 12 .done)))) (.gen 3 (.gen 10 (.qui 11 (.qui 12 .done)))))) (.two 2 9 (.two 3 9 (.gen 9 (.gen 10 (.qui 11 (.qui 12 .done)))) (.gen 3 (.gen 10 (.qui 11 (.qui 12 .done))))) (.gen 2 (.gen 3 (.gen 10 (.qui 11 (.qui 12 .done)))))))))))),by kernel_rfl,?_⟩;conv=>whnf
    refine ⟨rfl,⟨by omega,by omega⟩,?_⟩;conv=>whnf
    repeat' (refine And.intro ?_ ?_<;>(conv=>whnf))
    all_goals
     refine ROut.app (q:=r3) hB1 rfl rfl rfl rfl rfl (f:=fun i=>eI (gN G i)) (by rfl) (by show (j+1) * 8≤140737488355328;omega) hin (fun lv' w2 hin2=>?_)
     have hout2:ROut (fun s t=>ROut (OQ bo q L false (QJ G x.1 Rest (j+1))) 3 1 (fun i=>eI (gN G i)) (j+1) s lv' t) 2 1 (fun i=>eI (gI (G.map (gI nets)) i)) j st _ w2:=⟨s0,hw0,hin2⟩
     conv=>whnf
     refine ROut.app (q:=r2) (D8 hB1 _ _ _ _ _) rfl rfl rfl rfl rfl (f:=fun i=>eI (gI (G.map (gI nets)) i)) (by show _=eI _;rw [hgm];rfl) (by show (j+1) * 8≤140737488355328;omega) hout2 (fun wv' w3 hout3=>?_);conv=>whnf
     refine ⟨rfl,⟨by omega,by omega⟩,?_⟩;conv=>whnf
     rw [hsum]
     obtain ⟨s2,hw2,s3,hl3,hb3,y3,hy3,hq3⟩:=hout3
     have hpc:=C0L _ q false _ _ hq3 (hsortQ (j+1) hjl)
     rw [hpk2] at hpc
     refine A7 hpc ?_;conv=>whnf
     refine ⟨rfl,?_⟩;conv=>whnf
     exact nx hjl ⟨false,lv',wv',d1,d2,js,rfl,hpk2,⟨s2,hw2,s3,hl3,hb3,y3,hy3,hq3⟩⟩
  ·obtain rfl:j=G.length:=by omega
   rw [B9m] at hpk
   have hexit:(is&&(c1==x.1))=false:=by
    cases Rest with
    | nil=>obtain ⟨rfl,rfl,rfl⟩:=A7U hpk;rfl
    | cons r Rest=>obtain ⟨rfl,rfl,rfl⟩:=A7U hpk;exact hkey r (List.mem_cons_self ..)
   rw [List.take_length]
   have hM:=fun u=>B5z t (A5 (G.map (gI nets))) (-x.1) hrate u
   have hwn:IntKind.i64.wrap (0 - x.1) = -x.1:=(A9 (by omega) (by omega)).trans (by omega)
   case' neg=>cases is
   case' neg.true=>have hne:(c1==x.1)=false:=hexit
   case' neg.true=>conv=>whnf
   case' neg.true=>rw [hne]
   all_goals
    conv=>whnf
    rw [hwn]
    refine A7 (hM _) ?_
    generalize B6 t (A5 (G.map (gI nets))) (-x.1)=M at hparts
    conv=>whnf
    obtain ⟨w2,hsh,hR2⟩:=ROut.shift (D8 (A9o bo q L fl2 Rest) _ _ _ _ _) (show ROut (fun s t=>ROut (OQ bo q L fl2 Rest) 3 1 (fun i=>eI (gN G i)) G.length s lv t) 2 1 (fun i=>eI (gI (G.map (gI nets)) i)) G.length st wv w by rw [B9m] at hR;exact hR)
    have e0:AV.arr 1 G.length (fun i=>eI (gI (G.map (gI nets)) i))=A6 (G.map (gI nets)):=by unfold A6 B2;rw [List.length_map]
    rw [e0] at hsh
    refine F3 (args':=[eI M,A6 (G.map (gI nets))]) (B0.cons (B0.keep _ _) hsh) (A7 (hparts.2 _) ?_);conv=>whnf
    refine lp X.length [2,3,7,8,14,97,98,99] (fun j vs u=>vs=[A6 nets,.fptr (L7 t) 0,.own 1 bo 0 nets.length,.optr 1 q 0 0,lv,A6 X,eI X.length,eI j]∧ROut (OQ bo q (A3q L G X j) fl2 Rest) 3 1 (fun i=>eI (gN G i)) G.length st lv u) ?_ ?_
    ·conv=>whnf
     exact ⟨rfl,hR2⟩
    rintro j vs v hjx ⟨rfl,hR3⟩
    have hPl:=A7h L G X j
    have hdl:=hdone.1
    conv=>whnf
    cases h5:decide ((j:Int)<(X.length:Int))
    case' true =>
     have hj5:=E4 h5
     have hGj:=hGok j (by omega)
     obtain ⟨s0,hcl,h1o,yo,⟨fo,rfl,hfo⟩,h2o⟩:=hR3
     obtain ⟨b,g,h3,rfl,rfl,h4⟩:∃ b g,st b=none∧lv=.own 1 b 0 G.length∧s0=upd st b ⟨3,1,G.length,g⟩∧∀ k,k<G.length→g k=eI (gN G k):=by
      rcases hcl with ⟨h0,_⟩ | ⟨_,b,g,h3,h4,h5,h6⟩
      ·omega
      ·exact ⟨b,g,h3,h4,h5,h6⟩
     have hbb:b≠bo:=fun e=>by subst e;rw [A0] at h1o;cases h1o
     conv=>whnf
     refine ⟨rfl,⟨by omega,by omega⟩,?_⟩;conv=>whnf
     refine ⟨rfl,⟨by omega,by omega⟩,?_⟩;conv=>whnf
     refine D9 (h2o.sup b _ (by rw [A4 hbb];exact A0 ..)) rfl (by show 0+((j:Nat):Int).toNat<G.length;omega) (v:=eI (gN G j)) (by show g (0+((j:Nat):Int).toNat)=_;rw [show 0+((j:Nat):Int).toNat=j by omega];exact h4 j (by omega)) ?_;conv=>whnf
     refine ⟨rfl,⟨by omega,by omega⟩,?_⟩;conv=>whnf
     refine G6 (h2o.sup bo _ (A0 ..)) rfl (by show 0+(gN G j).toNat<(A3q L G X j).length;omega) (hfo (0+(gN G j).toNat) (by omega)) (by rfl) ?_;conv=>whnf
     refine ⟨rfl,?_⟩;conv=>whnf
     have hset:IsL (A3q L G X (j+1)) ⟨2,1,(A3q L G X j).length,C9 fo (0+(gN G j).toNat) (eI (gI X (j:Int).toNat))⟩:=by
      have:=IsL.set (i:=(gN G j).toNat) (v:=gI X j) hfo
      rw [show 0+(gN G j).toNat=(gN G j).toNat by omega,show (j:Int).toNat=j by omega]
      exact this
     have hw2:=(B6C q fl2 Rest).write (y':=⟨2,1,(A3q L G X j).length,C9 fo (0+(gN G j).toNat) (eI (gI X (j:Int).toNat))⟩) h2o (A0 ..)
     rw [B7] at hw2
     exact nx hj5 ⟨by rw [B9 (by omega)],⟨_,hcl,h1o,_,hset,hw2⟩⟩
    obtain rfl:=C6 h5 hjx
    conv=>whnf
    refine ⟨rfl,?_⟩;conv=>whnf
    have hfin:=ROut.dropped (A9o bo q (A3q L G X X.length) fl2 Rest) hR3
    rw [hparts.1] at hfin
    exact ⟨Rest.length,hmeas,_,fl2,A3q L G X G.length,by rw [hRest],rfl,hnext,by rw [hRest];exact hfin⟩
end Go.Proofs.YthdimklenlikgaaGreat
namespace Go.Proofs.YthdimklenlikgaaGreat
open Go Go.Ab
theorem B0Q (p:B4) (id K:Int):A2z (N8 p id K):=by
 have hs:=(A1S p.scope).2
 have hp:=A3V p.parts
 have ht5:=(A1T p.tiers 5000 (.inl rfl)).2
 have ht6:=(A1T p.tiers 5 (.inr rfl)).2
 refine ⟨?_,?_,?_,?_,?_,?_,?_⟩
 ·have:=X3 (B3D id);show (idN id).size≤_;omega
 ·have:=(A8n p).2;show (A1k p).size≤_;omega
 ·have:=(A9t p).2;show (A2q p).size≤_;omega
 ·show A1p (if K=4∨K=7 then ⟨[],[]⟩ else O7 p.scope)
  split
  ·exact A4F.2
  ·exact hs
 ·show (if K=4 then O1 p.parts else []).length≤_
  split
  ·omega
  ·exact Nat.zero_le _
 ·show ∀ x∈(if K=4 then O1 p.parts else []),_
  split
  ·exact fun x hx=>(hp.2 x hx).2
  ·exact fun x hx=>absurd hx List.not_mem_nil
 ·show (if K=5 then O2 p.tiers 5000 else if K=6 then O2 p.tiers 5 else []).length≤_
  split
  ·omega
  ·split
   ·omega
   ·exact Nat.zero_le _
theorem B4g (l:List K3) (k:Nat) (hk:k<3):B4W (E0 l k):=by
 have hn:=List.all_eq_true.1 B0I k (List.mem_range.2 hk)
 have hz:=X3 hn
 unfold E0
 split
 ·obtain ⟨h1,h2,h3⟩:=A7g (l.getD k default).rates
  generalize Q6 (l.getD k default).rates=R at h1 h2 h3 ⊢
  exact ⟨by show R.length≤_;omega,by show (O9 k).size≤_;omega,fun x hx=>by have:=(h2 x hx).2;show x.cat.size≤_;omega⟩
 ·exact ⟨by show 0≤_;decide,by show (O9 k).size≤_;omega,fun x hx=>absurd hx List.not_mem_nil⟩
theorem B5I (t:Z9):A8f (K2 t):=by
 refine ⟨by show ((List.range 3).map _).length≤_;rw [List.length_map,List.length_range];decide,fun z hz=>?_⟩
 obtain ⟨k,hk,rfl⟩:=List.mem_map.1 hz
 exact B4g _ k (List.mem_range.1 hk)
theorem B2E (r:I4):A8K (Z1 r):=by
 have h0:=A2T r.items
 have h2:=(Z0 r.policy.order).2
 have h3:=(Z0 r.policy.credit).2
 refine ⟨by show (O0 r.items).length≤_;omega,fun x hx=>?_,fun p hp=>?_,B5I r.tax,by show (N0 r.policy.order).length≤_;omega,by show (N0 r.policy.credit).length≤_;omega⟩
 ·have:=A5X hx
  exact ⟨by have:=this.2.1;show x.sku.size≤_;omega,by have:=this.2.2;show x.cat.size≤_;omega⟩
 ·obtain ⟨q,id,K,_,rfl⟩:=A4X hp
  exact B0Q q id K
abbrev C0x (l:List B4) (xs:List (Int×Int)):List A0D:=xs.map fun a=>(⟨(F6 l a.1).id,a.2⟩:A0D)
abbrev A9y (l:List B4) (xs:List (Int×Int)):List D6:=(xs.map fun a=>(F6 l a.1).group).filter fun g=>!L4 g
structure Tr (l:List B4) (p:PSt) (xs:List (Int×Int)):Prop where
 deals:p.deals=C0x l xs
 groups:p.groups=A9y l xs
 pos:∀ a∈xs,1≤a.2
 apart:p.groups.Pairwise fun x y=>(y.toList==x.toList)=false
theorem Tr.start (l:List B4) (us:List B5):Tr l ⟨us,[],[]⟩ []:=⟨rfl,rfl,fun a h=>absurd h List.not_mem_nil,.nil⟩
def B1R {σ : Type} (px : σ→PSt) (step : σ→B4→σ) (sm:B4→Bool) (l:List B4) (Q : σ→Int→Prop):Prop :=
 ∀ (a : σ) (s:Int) (pr:B4),pr∈l→sm pr=true→Q a s →
  ((px (step a pr)).deals=(px a).deals∧(px (step a pr)).groups=(px a).groups∧Q (step a pr) s) ∨
  ∃ off,1≤off∧(px (step a pr)).deals=(px a).deals++[⟨pr.id,off⟩]∧(px (step a pr)).groups=(px a).groups++(if L4 pr.group=true then [] else [pr.group])∧Q (step a pr) (s+off)
theorem C3C {σ : Type} {px : σ→PSt} {step : σ→B4→σ} {sm:B4→Bool} {l:List B4} {Q : σ→Int→Prop} (hstep:B1R px step sm l Q) :
  ∀ (f:List Int) (a : σ) (xs:List (Int×Int)) (s:Int),(∀ x∈f,x.toNat<l.length∧sm (F6 l x)=true)→Tr l (px a) xs→Q a s →
   ∃ ys,Tr l (px (f.foldl (fun a x=>goB px step a (F6 l x)) a)) (xs++ys)∧(ys.map Prod.fst).Sublist f∧Q (f.foldl (fun a x=>goB px step a (F6 l x)) a) (s+A5 (ys.map Prod.snd)):=by
 intro f
 induction f with
 | nil=>intro a xs s _ ht hq;exact ⟨[],by rw [List.append_nil];exact ht,List.Sublist.slnil,by rw [show s+A5 (([]:List (Int×Int)).map Prod.snd)=s from Int.add_zero s];exact hq⟩
 | cons x f ih =>
  intro a xs s hm ht hq
  have hm':∀ y∈f,y.toNat<l.length∧sm (F6 l y)=true:=fun y hy=>hm y (List.mem_cons_of_mem _ hy)
  have hx:=hm x (List.mem_cons_self ..)
  have hmem:F6 l x∈l:=B3 hx.1
  rw [List.foldl_cons]
  unfold goB
  by_cases hg:(L4 (F6 l x).group||!inB (px a).groups (F6 l x).group)=true
  ·rw [if_pos hg]
   rcases hstep a s (F6 l x) hmem hx.2 hq with ⟨h1,h2,h3⟩ | ⟨off,h0,h1,h2,h3⟩
   ·obtain ⟨ys,k1,k2,k3⟩:=ih _ xs s hm' ⟨h1.trans ht.deals,h2.trans ht.groups,ht.pos,by rw [h2];exact ht.apart⟩ h3
    exact ⟨ys,k1,k2.cons _,k3⟩
   ·have ht':Tr l (px (step a (F6 l x))) (xs++[(x,off)]):=by
     refine ⟨?_,?_,fun b hb=>?_,?_⟩
     ·rw [h1,ht.deals];unfold C0x;rw [List.map_append];rfl
     ·rw [h2,ht.groups];unfold A9y
      rw [List.map_append,List.filter_append]
      congr 1
      cases hn:L4 (F6 l x).group
      ·rw [if_neg (by simp)]
       show [(F6 l x).group]=List.filter (fun g=>!L4 g) [(F6 l x).group]
       rw [List.filter_cons_of_pos (p:=fun g=>!L4 g) (by rw [hn];rfl)];rfl
      ·rw [if_pos rfl]
       show []=List.filter (fun g=>!L4 g) [(F6 l x).group]
       rw [List.filter_cons_of_neg (p:=fun g=>!L4 g) (by rw [hn];simp)];rfl
     ·rcases List.mem_append.1 hb with hb | hb
      ·exact ht.pos b hb
      ·rw [List.mem_singleton.1 hb];exact h0
     ·rw [h2]
      refine List.pairwise_append.2 ⟨ht.apart,?_,fun y hy z hz=>?_⟩
      ·split
       ·exact .nil
       ·exact List.pairwise_singleton _ _
      ·split at hz
       ·exact absurd hz List.not_mem_nil
       ·rename_i hn
        rw [List.mem_singleton.1 hz]
        rw [Bool.eq_false_iff.2 hn,Bool.false_or,Bool.not_eq_true'] at hg
        unfold inB at hg
        rw [List.any_eq_false] at hg
        exact Bool.eq_false_iff.2 (hg y hy)
    obtain ⟨ys,k1,k2,k3⟩:=ih _ (xs++[(x,off)]) (s+off) hm' ht' h3
    refine ⟨(x,off)::ys,by rw [List.append_assoc] at k1;exact k1,k2.cons_cons x,?_⟩
    rw [List.map_cons,K1,←Int.add_assoc];exact k3
  ·rw [if_neg hg]
   obtain ⟨ys,k1,k2,k3⟩:=ih _ xs s hm' ht hq
   exact ⟨ys,k1,k2.cons _,k3⟩
theorem B7p {σ : Type} {px : σ→PSt} {step : σ→B4→σ} {sm:B4→Bool} {l:List B4} {Q : σ→Int→Prop} (hstep:B1R px step sm l Q) {o:List Int} (ho:∀ x∈o,x.toNat<l.length) {a : σ} {xs:List (Int×Int)} {s:Int} (ht:Tr l (px a) xs) (hq:Q a s) :
  ∃ ys,Tr l (px (V0 px step sm l a o)) (xs++ys)∧(ys.map Prod.fst).Sublist (o.filter fun x=>sm (F6 l x))∧Q (V0 px step sm l a o) (s+A5 (ys.map Prod.snd)) :=
 C3C hstep _ a xs s (fun x hx=>⟨ho x (List.mem_filter.1 hx).1,(List.mem_filter.1 hx).2⟩) ht hq
theorem B9B {items:List Ab.Item} {us0:List B5} {l:List B4} (hf:∀ p∈l,P0 p) (hr:∀ p∈l,I9 p=true):B1R (fun p:PSt=>p) (A3J items) R0 l (fun p s=>A5O items p.us∧Off us0 p.us s):=by
 intro a s pr hm hs hq
 have hk:pr.kind≠7:=by simpa [R0] using hs
 unfold A3J
 by_cases h:(W7 items a.us pr).2>0
 ·rw [if_pos h]
  rcases B7s hq.1 (hf _ hm) (hr _ hm) hk with e | e
  ·rw [e] at h;exact absurd h (by decide)
  ·exact .inr ⟨_,by omega,rfl,rfl,hq.1.off e,hq.2.trans e⟩
 ·rw [if_neg h]
  exact .inl ⟨rfl,rfl,hq⟩
theorem B8G {net fee fee0:Int} {l:List B4} (hr:∀ p∈l,I9 p=true):B1R (fun a:PSt×Int=>a.1) (S3 net) X2 l (fun a s=>0≤a.2∧a.2≤fee∧a.2+s=fee0):=by
 intro a s pr hm hs hq
 have hk:pr.kind=7:=by simpa [X2] using hs
 have h7:=(A2I (hr _ hm)).ship hk
 have hb:=Q7 a.2 pr.rate
 have hle:=A3Z hq.1 (show 0≤pr.rate by omega) h7.2
 unfold S3 A5Z
 by_cases h:net<pr.least
 ·rw [if_pos h];exact .inl ⟨rfl,rfl,hq⟩
 ·rw [if_neg h]
  by_cases h2:I7 a.2 pr.rate>0
  ·rw [if_pos h2]
   exact .inr ⟨I7 a.2 pr.rate,by omega,rfl,rfl,by show 0≤a.2 - I7 a.2 pr.rate;omega,by show a.2 - I7 a.2 pr.rate≤_;omega,by show a.2 - I7 a.2 pr.rate+(s+I7 a.2 pr.rate)=_;omega⟩
  ·rw [if_neg h2]
   exact .inl ⟨rfl,rfl,by show 0≤a.2 - I7 a.2 pr.rate;omega,by show a.2 - I7 a.2 pr.rate≤_;omega,by show a.2 - I7 a.2 pr.rate+s=_;omega⟩
theorem A4L (a b:List B5) (j:Nat):G2 (a++b) j=G2 a j+G2 b j:=by
 unfold G2;rw [List.filter_append,List.map_append,G1]
theorem B3L (l:List G4) (i j n:Nat):G2 (List.replicate n (lnU l i)) j=if i=j then n * (l.getD i default).price else 0:=by
 induction n with
 | zero=>show (0:Int)=_;split<;>simp
 | succ n ih =>
  rw [show List.replicate (n+1) (lnU l i)=[lnU l i]++List.replicate n (lnU l i) from rfl,A4L,ih]
  by_cases h:i=j
  ·rw [if_pos h,if_pos h]
   have:G2 [lnU l i] j=(l.getD i default).price:=by
    unfold G2
    rw [List.filter_cons_of_pos (by show (((i:Int)).toNat==j)=true;rw [Int.toNat_natCast,h];simp)]
    show A5 [(l.getD i default).price]=_
    rw [K1];exact Int.add_zero _
   rw [this,show ((n+1:Nat):Int) * (l.getD i default).price=n * (l.getD i default).price+(l.getD i default).price by rw [Int.natCast_add,Int.add_mul];simp]
   omega
  ·rw [if_neg h,if_neg h]
   have:G2 [lnU l i] j=0:=by
    unfold G2
    rw [List.filter_cons_of_neg (by show ¬(((i:Int)).toNat==j)=true;rw [Int.toNat_natCast];simpa using h)];rfl
   rw [this];rfl
theorem B5v (l:List G4) (hl:∀ x∈l,0≤x.qty) (j k:Nat) (hk:k≤l.length):G2 (G5 l k) j=if j<k then (l.getD j default).qty * (l.getD j default).price else 0:=by
 induction k with
 | zero=>rfl
 | succ k ih =>
  show G2 (G5 l k++List.replicate (l.getD k default).qty.toNat (lnU l k)) j=_
  rw [A4L,ih (by omega),B3L]
  have hq:=hl _ (B3 (show k<l.length by omega))
  by_cases e:k=j
  ·subst e
   rw [if_neg (by omega),if_pos rfl,if_pos (by omega),Int.toNat_of_nonneg hq,Int.zero_add]
  ·rw [if_neg e]
   by_cases h:j<k
   ·rw [if_pos h,if_pos (by omega),Int.add_zero]
   ·rw [if_neg h,if_neg (by omega)];rfl
theorem A9E {us us':List B5} {x:Int} (h:Off us us' x) (j:Nat):∀ k,k≤us.length→G2 (us'.take k) j≤G2 (us.take k) j
 | 0,_=>Int.le_refl _
 | k+1,hk=>by
  have ih:=A9E h j k (by omega)
  have hl:=h.len
  rw [U7 (by omega),U7 (by omega),h.line k]
  have:=(h.net k).2
  split<;>omega
theorem B4K (f:Nat→Int) (t:Nat) (x:Int):∀ n,A5 ((List.range n).map fun j=>if t=j then f j+x else f j)=A5 ((List.range n).map f)+if t<n then x else 0
 | 0=>by rw [if_neg (by omega)];rfl
 | n+1=>by
  rw [K5,K5,B4K f t x n]
  by_cases e:t=n
  ·rw [if_pos e,if_neg (by omega),if_pos (by omega)];omega
  ·rw [if_neg e]
   by_cases h:t<n
   ·rw [if_pos h,if_pos (by omega)];omega
   ·rw [if_neg h,if_neg (by omega)];omega
theorem B0v:∀ n,A5 ((List.range n).map fun _=>(0:Int))=0
 | 0=>rfl
 | n+1=>by rw [K5,B0v n];rfl
theorem A6W {us:List B5} {n:Nat} (h:∀ k,k<us.length→(gU us k).line.toNat<n):∀ k,k≤us.length→A5 ((List.range n).map (G2 (us.take k)))=A5 (E1 (us.take k))
 | 0,_=>B0v n
 | k+1,hk=>by
  have ih:=A6W h k (by omega)
  have e1:(G2 (us.take (k+1)))=fun j=>if (gU us k).line.toNat=j then G2 (us.take k) j+(gU us k).net else G2 (us.take k) j:=funext fun j=>U7 (by omega) j
  rw [e1,B4K,ih,if_pos (h k (by omega)),I6 (by omega)]
  unfold E1
  rw [List.map_append,G1]
  show _+(gU us k).net=_+A5 [(gU us k).net]
  rw [K1];show _=_+((gU us k).net+0);omega
structure A9g (r:I4) (codes:List D6) (l:List G4) (Pr:A2e) (xs ys:List (Int×Int)):Prop where
 deals:Pr.deals=C0x r.promos (xs++ys)
 mem:∀ a∈xs++ys,(0≤a.1∧a.1.toNat<r.promos.length)∧W8 codes (F6 r.promos a.1)=true∧1≤a.2
 sx:(xs.map Prod.fst).Sublist (R8 r.promos codes)
 sy:(ys.map Prod.fst).Sublist (R8 r.promos codes)
 kx:∀ a∈xs,(F6 r.promos a.1).kind≠7
 ky:∀ a∈ys,(F6 r.promos a.1).kind=7
 apart:(A9y r.promos (xs++ys)).Pairwise fun x y=>(y.toList==x.toList)=false
 sum:Pr.net+A5 (xs.map Prod.snd)=J6 l
 len:Pr.nets.length=l.length
 nets:A5 Pr.nets=Pr.net
 each:∀ i,i<l.length→0≤gI Pr.nets i∧gI Pr.nets i≤(l.getD i default).qty * (l.getD i default).price
 ship:0≤Pr.ship∧Pr.ship≤r.ship.fee
 shipSum:Pr.ship+A5 (ys.map Prod.snd)=A0m r.ship (S9 l).length Pr.net
theorem B2x {l:List B4} {codes:List D6} {i:Nat} {x:Int} (h:x∈places l codes i):W8 codes (F6 l x)=true:=by
 unfold places at h
 obtain ⟨k,hk,rfl⟩:=List.mem_map.1 h
 exact (List.mem_filter.1 hk).2
theorem B8q {r:I4} {codes:List D6} {l:List G4} (hf:A0G r) (hck:E7 r codes l=0):∃ xs ys,A9g r codes l (W4 r l (R8 r.promos codes) (R8 r.promos codes)) xs ys:=by
 have ck:=A5v hck
 have hok:=ck.lines
 have hu:=B3d hok
 obtain ⟨u1,u2,u3⟩:=A1B l hok.line l.length (Nat.le_refl _)
 rw [List.take_length] at u1 u2
 have hitl:(C2 r.items l).length=l.length:=List.length_map ..
 have hpl:∀ x∈R8 r.promos codes,(0≤x∧x.toNat<r.promos.length)∧W8 codes (F6 r.promos x)=true:=fun x hx=>by
  have:=(A2a r.promos codes).mem_iff.1 hx
  exact ⟨Y9 this,B2x this⟩
 have hlt:∀ x∈R8 r.promos codes,x.toNat<r.promos.length:=fun x hx=>(hpl x hx).1.2
 obtain ⟨xs,a1,a2,a3,a4⟩:=B7p (B9B (items:=C2 r.items l) (us0:=S9 l) hf.fit ck.promo) hlt (a:=⟨S9 l,[],[]⟩) (Tr.start r.promos (S9 l)) ⟨hu,Off.refl hu.ok⟩
 rw [List.nil_append] at a1
 rw [Int.zero_add] at a4
 have hfee:0≤A0m r.ship (S9 l).length (M9 (p1B r l (R8 r.promos codes)))∧A0m r.ship (S9 l).length (M9 (p1B r l (R8 r.promos codes)))≤r.ship.fee:=by
  unfold A0m;have:=ck.fee;split<;>omega
 obtain ⟨ys,b1,b2,b3⟩:=B7p (B8G (net:=M9 (p1B r l (R8 r.promos codes))) (fee:=r.ship.fee) (fee0:=A0m r.ship (S9 l).length (M9 (p1B r l (R8 r.promos codes)))) ck.promo) hlt (a:=(p1B r l (R8 r.promos codes),A0m r.ship (S9 l).length (M9 (p1B r l (R8 r.promos codes))))) (s:=0) a1 ⟨hfee.1,hfee.2,Int.add_zero _⟩
 rw [Int.zero_add] at b3
 have a2':∀ a∈xs,a.1∈R8 r.promos codes∧R0 (F6 r.promos a.1)=true:=fun a ha=>List.mem_filter.1 (a2.subset (List.mem_map.2 ⟨a,ha,rfl⟩))
 have b2':∀ a∈ys,a.1∈R8 r.promos codes∧X2 (F6 r.promos a.1)=true:=fun a ha=>List.mem_filter.1 (b2.subset (List.mem_map.2 ⟨a,ha,rfl⟩))
 have hus:A5O (C2 r.items l) (p1B r l (R8 r.promos codes)).us:=a3
 have hlen:=a4.len
 have hln:∀ k,k<(p1B r l (R8 r.promos codes)).us.length→(gU (p1B r l (R8 r.promos codes)).us k).line.toNat<l.length:=fun k hk=>by
  have:=(hus.line _ (B3 hk)).2
  rw [hitl] at this;exact this
 have hsm:=A6W hln _ (Nat.le_refl _)
 rw [List.take_length] at hsm
 refine ⟨xs,ys,b1.deals,fun a ha=>?_,a2.trans List.filter_sublist,b2.trans List.filter_sublist,fun a ha=>by simpa [R0] using (a2' a ha).2,fun a ha=>by simpa [X2] using (b2' a ha).2,by rw [←b1.groups];exact b1.apart,?_,?_,hsm,fun i hi=>?_,⟨b3.1,b3.2.1⟩,b3.2.2⟩
 ·have hp:=b1.pos a ha
  rcases List.mem_append.1 ha with h | h
  ·exact ⟨(hpl _ (a2' a h).1).1,(hpl _ (a2' a h).1).2,hp⟩
  ·exact ⟨(hpl _ (b2' a h).1).1,(hpl _ (b2' a h).1).2,hp⟩
 ·have:=a4.sum
  show A5 (E1 (p1B r l (R8 r.promos codes)).us)+_=_
  exact this.trans u2
 ·show ((List.range l.length).map _).length=_
  rw [List.length_map,List.length_range]
 ·have e:gI (W4 r l (R8 r.promos codes) (R8 r.promos codes)).nets i=G2 (p1B r l (R8 r.promos codes)).us i:=by
   show gI ((List.range l.length).map (G2 (p1B r l (R8 r.promos codes)).us)) i=_
   unfold gI
   rw [List.getD_eq_getElem?_getD,List.getElem?_map,List.getElem?_range hi];rfl
  rw [e]
  have h1:=(A0d hus.ok (p1B r l (R8 r.promos codes)).us.length i).1
  rw [List.take_length] at h1
  have h2:=A9E a4 i _ (Nat.le_refl _)
  rw [List.take_length,List.take_of_length_le (Nat.le_of_eq hlen)] at h2
  have h3:=B5v l (fun x hx=>((Y5 _).1 (hok.line x hx)).1.1) i l.length (Nat.le_refl _)
  rw [if_pos hi] at h3
  have h2':G2 (p1B r l (R8 r.promos codes)).us i≤G2 (G5 l l.length) i:=h2
  exact ⟨h1,by omega⟩
end Go.Proofs.YthdimklenlikgaaGreat
namespace Go.Proofs.YthdimklenlikgaaGreat
open Go Go.Ab
attribute [local irreducible] upd del
structure S5 (R:I4) (C:List D6) (L:List G4):Prop where
 right:Z8 R=true
 fit:A0G R
 sm:A8K R
 codes:A0J C=true
 ncodes:C.length≤3
 scodes:∀ s∈C,s.size≤12
 lines:A2Z L
 check:E7 R C L=0
 few:R.promos.length≤6
 items:R.items.length≤8
 known:∀ n,known R.items (A0W n)=true
 fee:0≤R.ship.fee∧R.ship.fee≤1000000000
theorem C4V (r:I4) (codes:List D6) (l:List G4):S5 (Z1 r) (A0z codes) (V9 l):=by
 have hc:=B2A codes
 have hl:=B2C l
 have hr:=A8J r
 have hn:=A0S r.promos
 have hck:E7 (Z1 r) (A0z codes) (V9 l)=0:=by
  unfold E7
  rw [if_neg (by rw [hr];simp),if_neg (by rw [hc.1];simp)]
  exact hl.check (A9B r.items)
 exact ⟨hr,B0R r,B2E r,hc.1,hc.2.1,hc.2.2,hl,hck,by show (L5 r.promos).length≤6;omega,by show (O0 r.items).length≤8;rw [A2T];omega,A9B r.items,(A5v hck).fee⟩
theorem S5.promosC {R:I4} {C:List D6} {L:List G4} (h:S5 R C L):promosC R.promos=true:=by
 have:=h.right
 unfold Z8 at this
 simp only [Bool.and_eq_true] at this
 exact this.1.1.1.2
def A2s (R:I4) (C:List D6) (L:List G4):A2e:=W4 R L (R8 R.promos C) (R8 R.promos C)
theorem C0G {R:I4} {C:List D6} {L:List G4} (hck:E7 R C L=0) (hf:A0G R) (hC:Go.Proofs.YthdimklenlikgaaGreat.promosC R.promos=true) (hn:R.promos.length≤6) (hi:R.items.length≤8) (hc:C.length≤3) (st:St) :
  S P 20 [H6 R,D3 C,B2 3 H2 L] st fun v s=>v=.tuple [T1 (A2s R C L),eI 0]∧s=st :=
 (price_S R C L hf (by show C.length≤9223372036854775807;omega) (by omega) (by have:=X5 R.promos C R.promos.length;omega) st).mono fun v s ⟨hv,hs⟩=>by
  refine ⟨?_,hs⟩
  rcases hv with ⟨h1,_⟩ | ⟨_,o1,o2,h1,h2,h3⟩
  ·exact absurd hck h1
  ·rw [B4r hC h1,B4r hC h2] at h3;exact h3
theorem S5.price_S {R:I4} {C:List D6} {L:List G4} (h:S5 R C L) (st:St) :
  S P 20 [H6 R,D3 C,B2 3 H2 L] st fun v s=>v=.tuple [T1 (A2s R C L),eI 0]∧s=st :=
 C0G h.check h.fit h.promosC h.few h.items h.ncodes st
theorem S5.ref_S {R:I4} {C:List D6} {L:List G4} (h:S5 R C L) (st:St) :
  S P 21 [H6 R,D3 C,B2 3 H2 L] st fun v s=>v=.tuple [T1 (A2s R C L),eI 0]∧s=st :=
 (C0S R C L h.fit h.sm h.right (by have:=h.ncodes;show C.length≤4611686018427387904;omega) (fun s hs=>by have:=h.scodes s hs;show s.size≤4611686018427387904;omega) (by have:=h.lines.len;show L.length≤4611686018427387904;omega) st).mono fun v s ⟨hv,hs⟩=>by
  rw [if_pos h.check] at hv
  exact ⟨hv,hs⟩
theorem S5.law {R:I4} {C:List D6} {L:List G4} (h:S5 R C L):∃ xs ys,A9g R C L (A2s R C L) xs ys:=B8q h.fit h.check
structure C4n (L:List G4) (Pr:A2e) (g fee:Int):Prop where
 len:Pr.nets.length=L.length
 at':∀ i,i<L.length→0≤gI Pr.nets i∧gI Pr.nets i≤(L.getD i default).qty * (L.getD i default).price
 sum:A5 Pr.nets=Pr.net
 net:0≤Pr.net∧Pr.net≤g
 ship:0≤Pr.ship∧Pr.ship≤fee
theorem S5.nets {R:I4} {C:List D6} {L:List G4} (h:S5 R C L):C4n L (A2s R C L) (J6 L) R.ship.fee:=by
 obtain ⟨xs,ys,hl⟩:=h.law
 have h0:∀ x∈(A2s R C L).nets,0≤x:=fun x hx=>by
  obtain ⟨i,hi,rfl⟩:=E8 hx
  exact (hl.each i (by rw [←hl.len];exact hi)).1
 have hx:0≤A5 (xs.map Prod.snd):=C4 fun x hx=>by
  obtain ⟨a,ha,rfl⟩:=List.mem_map.1 hx
  have:=(hl.mem a (List.mem_append_left _ ha)).2.2
  omega
 have hs:=hl.sum
 have hn:=hl.nets
 have:=C4 h0
 exact ⟨hl.len,hl.each,hl.nets,by omega,hl.ship⟩
theorem C2M {R:I4} {C:List D6} {L:List G4} {Pr:A2e} {xs ys:List (Int×Int)} (h:A9g R C L Pr xs ys) (hn:R.promos.length≤6):Pr.deals.length≤12:=by
 rw [h.deals,List.length_map,List.length_append]
 have h1:=h.sx.length_le
 have h2:=h.sy.length_le
 rw [List.length_map,(A2a R.promos C).length_eq] at h1 h2
 have:=X5 R.promos C R.promos.length
 omega
theorem B6w (n:Int) (st:St):S P 50 [eI n] st fun r st'=>r=eS (O9 (C5 n 3))∧st'=st:=by
 refine A8 [] B8 mixed Tryz.func50 (by rfl) rfl rfl rfl ?_;conv=>whnf
 refine A7 (A0y n 3 (by decide) (by decide) _) ?_;conv=>whnf
 refine ⟨?_,rfl⟩
 show AV.str ((⟨#[122]⟩:D6)++B0t [IntKind.u8.wrap (48+IntKind.u8.wrap (C5 n 3))])=_
 rw [B0B];rfl
theorem C8I {t:Z9} {z:K3} {cats:List D6} {nets:List Int} {ship:Int} (h:A0i t z cats nets ship) (st:St) :
  S P (C1F t) [L7 t,A6 (cats.map (E6 z)),A6 nets] st fun v st'=>v=A6 (I2 t (cats.map (E6 z)) nets)∧st'=st:=by
 obtain ⟨r1,r2⟩:=A3s h
 unfold C1F I2
 split
 ·exact B7E t _ _ h.nets r1 r2 st
 ·exact B3u t _ _ h.nets.len r1 r2 st
theorem S5.taxC {R:I4} {C:List D6} {L:List G4} (h:S5 R C L):taxC R.tax=true:=by
 have:=h.right
 unfold Z8 at this
 simp only [Bool.and_eq_true] at this
 exact this.1.1.2
theorem S5.levy {R:I4} {C:List D6} {L:List G4} (h:S5 R C L) {z:K3} {s:D6} (hz:S4 R.tax.zones s=some z):A0i R.tax z (J7 R L) (A2s R C L).nets (A2s R C L).ship:=by
 have hN:=h.nets
 have hg:=B7l h.lines.line
 have hl:=h.lines.len
 have hf:=h.fee
 have hsh:=hN.ship
 refine ⟨h.taxC,B5n h.taxC hz,by rw [B7G,hN.len],⟨by rw [hN.len];omega,fun x hx=>?_,by rw [hN.sum];have:=hN.net;omega⟩,by omega⟩
 obtain ⟨i,hi,rfl⟩:=E8 hx
 exact (hN.at' i (by rw [←hN.len];exact hi)).1
def B5M (R:I4) (C:List D6) (L:List G4) (z:K3) (exempt:Bool):A4f:=A8a R z exempt L (A2s R C L)
theorem S5.quote_S {R:I4} {C:List D6} {L:List G4} (h:S5 R C L) {z:K3} {s:D6} (hz:S4 R.tax.zones s=some z) (exempt:Bool) (st:St) :
  S P 51 [H6 R,eS s,eB exempt,D3 C,B2 3 H2 L] st fun v st'=>v=.tuple [A0l (B5M R C L z exempt),eI 0]∧st'=st:=by
 have hv:=h.levy hz
 have hk:=(A5v h.check).lines.known
 have hi:=h.items
 have hl:=h.lines.len
 exact Go.Proofs.YthdimklenlikgaaGreat.quote_S exempt (fun st=>h.price_S st) (fun st=>A5y _ _ (by omega) (by omega) hk st) (by omega) hv hz (fun st=>C8I hv st) (B1s hv exempt) st
theorem S5.quoteIn {R:I4} {C:List D6} {L:List G4} (h:S5 R C L) {z:K3} {s:D6} (hz:S4 R.tax.zones s=some z) (exempt:Bool):B6x (B5M R C L z exempt) L.length:=by
 have:=B2o (h.levy hz) exempt (A2s R C L).deals
 rw [h.nets.len] at this;exact this
theorem B0S (r:I4) (n:Int):∃ z,S4 (Z1 r).tax.zones (O9 (C5 n 3))=some z:=by
 have:=E5 n (n:=3) (by decide)
 obtain ⟨k,hk⟩:∃ k:Nat,C5 n 3=k:=⟨(C5 n 3).toNat,by omega⟩
 rw [hk]
 exact ⟨_,B9f r.tax (by omega)⟩
theorem B0.pre {a b:List AV} {s t:St} (h:B0 a s b t):∀ l:List AV,B0 (l++a) s (l++b) t
 | []=>h
 | x::l=>B0.cons (B0.keep [x] s) (B0.pre h l)
abbrev B2h (l:List A1t):Nat→AV:=fun k=>S7 (l.getD k default)
theorem ROut.put {ty e n b:Nat} {fo:Nat→AV} {s t:St} {sv:AV} {y:R3} (h:ROut D7 ty e fo n (upd s b y) sv t) (y':R3):ROut D7 ty e fo n (upd s b y') sv (upd t b y'):=by
 have:=ROut.write (y':=y') B1 h (A0 ..)
 rwa [B7] at this
theorem A9S {l:List A1t} (h:l.length=0):O1 l=[⟨⟨[],[]⟩,2⟩]:=if_pos h
theorem A9T {l:List A1t} (h:l.length≠0):O1 l=(l.take 3).map V6:=if_neg h
theorem C2Z {l:List A1t} {i:Nat} (hi:i<min l.length 3):((l.take 3).map V6).getD i default=V6 (l.getD i default):=by
 rw [List.getD_eq_getElem?_getD,List.getElem?_map,List.getElem?_take_of_lt (by omega),List.getElem?_eq_getElem (by omega),List.getD_eq_getElem?_getD,List.getElem?_eq_getElem (by omega)];rfl
set_option maxHeartbeats 80000000 in
theorem B4c (p:B4) (id:Int) (st:St):S P 147 [C1 p,eI id] st fun v st'=>v=C1 (A1l p id)∧st'=st:=by
 refine S.post (post:=fun v s=>(∃ W,v=.agg W∧D7 st s∧F7 W (cellsOf (C1 (A1l p id))))∨∃ (pre:List AV) (sv fin:AV) (base:St),v=.agg (pre++[sv,fin])∧B0 [sv] s [B2 3 S7 (O1 p.parts)] base∧D7 st base∧F7 (pre++[B2 3 S7 (O1 p.parts),fin]) (cellsOf (C1 (A1l p id)))) ?_ (fun v s h=>⟨_,st,⟨rfl,rfl⟩,by
   rcases h with ⟨W,h1,h3,h4⟩ | ⟨pre,sv,fin,base,h1,h2,h3,h4⟩
   ·rw [h1];exact (Le.shift (Le.agg h4) _).trans (h3.shift _)
   ·rw [h1]
    refine (B0.agg (B0.pre (B0.cons h2 (B0.keep [fin] _)) pre)).trans ?_
    exact (Le.shift (Le.agg h4) _).trans (h3.shift _)⟩)
 have hScope:=fun s=>B4i p.scope s
 obtain ⟨SC,hSC⟩:∃ SC,SC=O7 p.scope:=⟨_,rfl⟩
 rw [←hSC] at hScope
 have hId:=fun s=>C9d id s
 obtain ⟨I,hI⟩:∃ I,I=idN id:=⟨_,rfl⟩
 rw [←hI] at hId
 have hPr:=fun s=>A0y p.prio 5 (by decide) (by decide) s
 obtain ⟨PR,hPR⟩:∃ PR,PR=C5 p.prio 5:=⟨_,rfl⟩
 rw [←hPR] at hPr
 have hKd:=fun s=>A0y (IntKind.i64.wrap (p.kind - 1)) 7 (by decide) (by decide) s
 have hkm:=E5 (IntKind.i64.wrap (p.kind - 1)) (n:=7) (by decide)
 have hkw:IntKind.i64.wrap (1+C5 (IntKind.i64.wrap (p.kind - 1)) 7)=A2r p:=A9 (by omega) (by omega)
 have hK:=A4V p
 have hP:A1l p id=N8 p id (A2r p):=rfl
 rw [hP]
 generalize A2r p=K at hK hkw ⊢
 clear hP
 generalize C5 (IntKind.i64.wrap (p.kind - 1)) 7=KD at hKd hkw
 obtain ⟨G,hG⟩:∃ G,G=A1k p:=⟨_,rfl⟩
 obtain ⟨C,hC⟩:∃ C,C=A2q p:=⟨_,rfl⟩
 obtain ⟨L,hL⟩:∃ L,L=A2c p:=⟨_,rfl⟩
 have wr:IntKind.i64.wrap (1+C5 p.rate 10000)=1+C5 p.rate 10000:=by have:=E5 p.rate (n:=10000) (by decide);exact A9 (by omega) (by omega)
 have wa:IntKind.i64.wrap (1+C5 p.amount 900)=1+C5 p.amount 900:=by have:=E5 p.amount (n:=900) (by decide);exact A9 (by omega) (by omega)
 have wb:IntKind.i64.wrap (1+C5 p.buy 3)=1+C5 p.buy 3:=by have:=E5 p.buy (n:=3) (by decide);exact A9 (by omega) (by omega)
 have wg:IntKind.i64.wrap (1+C5 p.get 2)=1+C5 p.get 2:=by have:=E5 p.get (n:=2) (by decide);exact A9 (by omega) (by omega)
 have hT5:=fun s=>A8r p.tiers 5000 (by decide) (by decide) s
 obtain ⟨TS,hTS⟩:∃ TS,TS=O2 p.tiers 5000:=⟨_,rfl⟩
 rw [←hTS] at hT5
 have hT6:=fun s=>A8r p.tiers 5 (by decide) (by decide) s
 obtain ⟨TU,hTU⟩:∃ TU,TU=O2 p.tiers 5:=⟨_,rfl⟩
 rw [←hTU] at hT6
 have hA3:=fun s=>N7 p.amount 3000 (by decide) (by decide) s
 obtain ⟨A3,hA⟩:∃ A3,A3=C5 p.amount 3000:=⟨_,rfl⟩
 rw [←hA] at hA3
 refine A8 [2] B8 mixed Tryz.func147 (by rfl) rfl rfl rfl ?_;conv=>whnf
 intro b4 hb4;conv=>whnf
 refine ⟨[16,17],[1,3,5,8,9,11,13,14],List.range 18,by kernel_rfl,?_⟩;conv=>whnf
 refine ⟨_,fun s _=>D1 (hId s),?_⟩;conv=>whnf
 refine ⟨_,fun s _=>⟨rfl,rfl⟩,?_⟩;conv=>whnf
 refine ⟨_,fun s _=>D1 (hKd s),?_⟩;conv=>whnf
 refine ⟨_,fun s _=>⟨rfl,rfl⟩,?_⟩;conv=>whnf
 refine ⟨_,fun s _=>D1 (hPr s),?_⟩;conv=>whnf
 refine ⟨_,fun s _=>⟨rfl,rfl⟩,?_⟩;conv=>whnf
 refine ⟨_,fun s _=>⟨rfl,rfl⟩,?_⟩;conv=>whnf
 refine ⟨_,fun s _=>D1 (hScope s),?_⟩;conv=>whnf
 intro b5 hb5
 have hne:b4≠b5:=fun e=>by subst e;rw [A0] at hb5;cases hb5
 conv=>whnf
 refine G6 (A0 ..) rfl (by omega) rfl (by rfl) ?_
 rw [B7,hkw]
 have hst:∀ Y:R3,D7 st (upd (upd st b4 ⟨83,15,1,fun _=>G9 r83.zero⟩) b5 Y):=fun Y=>((D7.refl st).upd hb4).upd hb5
 conv=>whnf
 refine A7 (A9Q _ _) ?_;conv=>whnf
 refine A7 (A0y _ 3 (by decide) (by decide) _) ?_;conv=>whnf
 cases hg:(C5 (A2H p.group) 3==1)
 case' true =>
  have hgv:(⟨#[103]⟩:D6)++B0t ([]++[IntKind.u8.wrap (48+IntKind.u8.wrap (C5 p.group.size 2))])=G:=by rw [hG,B0B];exact (if_pos (by simpa using hg)).symm
  conv=>whnf
  refine A7 (A0y _ 2 (by decide) (by decide) _) ?_;conv=>whnf
  rw [hgv]
  refine G6 (A0 ..) rfl (by omega) (A2 ..) (by rfl) ?_
  rw [B7]
 case' false =>
  have hG0:(⟨#[]⟩:D6)=G:=by rw [hG];exact (if_neg (by simpa using hg)).symm
 all_goals
  conv=>whnf
  refine A7 (A9Q _ _) ?_;conv=>whnf
  refine A7 (A0y _ 3 (by decide) (by decide) _) ?_;conv=>whnf
  cases hcd:(C5 (A2H p.code) 3==1)
  case' true =>
   have hcv:A4h p.code.size=C:=by rw [hC];exact (if_pos (by simpa using hcd)).symm
   conv=>whnf
   refine A7 (B9O _ _) ?_;conv=>whnf
   rw [hcv]
   refine G6 (A0 ..) rfl (by omega) (A2 ..) (by rfl) ?_
   rw [B7]
  case' false =>
   have hC0:(⟨#[]⟩:D6)=C:=by rw [hC];exact (if_neg (by simpa using hcd)).symm
  all_goals
   conv=>whnf
   refine A7 (N7 _ 3 (by decide) (by decide) _) ?_;conv=>whnf
   cases hl:(C5 p.least 3==1)
   case' true =>
    have hlv:C5 p.least 9000=L:=by rw [hL];exact (if_pos (by simpa using hl)).symm
    conv=>whnf
    refine A7 (N7 _ 9000 (by decide) (by decide) _) ?_;conv=>whnf
    rw [hlv]
    refine G6 (A0 ..) rfl (by omega) (A2 ..) (by rfl) ?_
    rw [B7]
   case' false =>
    have hL0:(0:Int)=L:=by rw [hL];exact (if_neg (by simpa using hl)).symm
   all_goals
    conv=>whnf
    refine D9 (A0 ..) rfl (by omega) (A2 ..) ?_
    rcases (show K=1∨K=2∨K=3∨K=4∨K=5∨K=6∨K=7 by omega) with rfl | rfl | rfl | rfl | rfl | rfl | rfl
    ·rw [show cellsOf (C1 (N8 p id 1))=[eS (I),eI 1,eI (PR),eS (G),eS (C),eB p.closes,D3 (SC).skus,D3 (SC).cats,eI (L),eI (1+C5 p.rate 10000),eI 0,eI 0,eI 0,B2 3 S7 [],B2 3 P7 []] from by rw [hI,hPR,hG,hC,hL,hSC];rfl]
     (try subst hG0);(try subst hC0);(try subst hL0)
     conv=>whnf
     refine A7 (N7 _ 10000 (by decide) (by decide) _) ?_;conv=>whnf
     rw [wr]
     refine G6 (A0 ..) rfl (by omega) (A2 ..) (by rfl) ?_
     rw [B7];conv=>whnf
     refine D9 (A0 ..) rfl (by omega) (A2 ..) ?_;conv=>whnf
     refine G6 (by rw [A4 hne];exact A0 ..) rfl (by omega) rfl (by rfl) ?_;conv=>whnf
     refine D9 (A0 ..) rfl (by omega) (A2 ..) ?_;conv=>whnf
     exact .inl ⟨_,rfl,(hst _).over hb4,F7.cons (Le.refl _) (F7.cons (Le.refl _) (F7.cons (Le.refl _) (F7.cons (Le.refl _) (F7.cons (Le.refl _) (F7.cons (Le.refl _) (F7.cons (Le.refl _) (F7.cons (Le.refl _) (F7.cons (Le.refl _) (F7.cons (Le.refl _) (F7.cons (Le.refl _) (F7.cons (Le.refl _) (F7.cons (Le.refl _) (F7.cons (Le.emp _ _) (F7.cons (Le.emp _ _) (F7.nil)))))))))))))))⟩
    ·rw [show cellsOf (C1 (N8 p id 2))=[eS (I),eI 2,eI (PR),eS (G),eS (C),eB p.closes,D3 (SC).skus,D3 (SC).cats,eI (L),eI 0,eI (1+C5 p.amount 900),eI 0,eI 0,B2 3 S7 [],B2 3 P7 []] from by rw [hI,hPR,hG,hC,hL,hSC];rfl]
     (try subst hG0);(try subst hC0);(try subst hL0)
     conv=>whnf
     refine A7 (N7 _ 900 (by decide) (by decide) _) ?_;conv=>whnf
     rw [wa]
     refine G6 (A0 ..) rfl (by omega) (A2 ..) (by rfl) ?_
     rw [B7];conv=>whnf
     refine D9 (A0 ..) rfl (by omega) (A2 ..) ?_;conv=>whnf
     refine G6 (by rw [A4 hne];exact A0 ..) rfl (by omega) rfl (by rfl) ?_;conv=>whnf
     refine D9 (A0 ..) rfl (by omega) (A2 ..) ?_;conv=>whnf
     exact .inl ⟨_,rfl,(hst _).over hb4,F7.cons (Le.refl _) (F7.cons (Le.refl _) (F7.cons (Le.refl _) (F7.cons (Le.refl _) (F7.cons (Le.refl _) (F7.cons (Le.refl _) (F7.cons (Le.refl _) (F7.cons (Le.refl _) (F7.cons (Le.refl _) (F7.cons (Le.refl _) (F7.cons (Le.refl _) (F7.cons (Le.refl _) (F7.cons (Le.refl _) (F7.cons (Le.emp _ _) (F7.cons (Le.emp _ _) (F7.nil)))))))))))))))⟩
    ·rw [show cellsOf (C1 (N8 p id 3))=[eS (I),eI 3,eI (PR),eS (G),eS (C),eB p.closes,D3 (SC).skus,D3 (SC).cats,eI (L),eI (1+C5 p.rate 10000),eI 0,eI (1+C5 p.buy 3),eI (1+C5 p.get 2),B2 3 S7 [],B2 3 P7 []] from by rw [hI,hPR,hG,hC,hL,hSC];rfl]
     (try subst hG0);(try subst hC0);(try subst hL0)
     conv=>whnf
     refine ⟨[13,15,17],[],List.range 18,by kernel_rfl,?_⟩;conv=>whnf
     refine ⟨_,D1 (N7 _ 10000 (by decide) (by decide) _),?_⟩;conv=>whnf
     rw [wr]
     refine ⟨_,D1 (A0y _ 3 (by decide) (by decide) _),?_⟩;conv=>whnf
     rw [wb]
     refine ⟨_,D1 (A0y _ 2 (by decide) (by decide) _),?_⟩;conv=>whnf
     rw [wg]
     refine G6 (A0 ..) rfl (by omega) (A2 ..) (by rfl) ?_
     rw [B7];conv=>whnf
     refine G6 (A0 ..) rfl (by omega) (A2 ..) (by rfl) ?_
     rw [B7];conv=>whnf
     refine G6 (A0 ..) rfl (by omega) (A2 ..) (by rfl) ?_
     rw [B7];conv=>whnf
     refine D9 (A0 ..) rfl (by omega) (A2 ..) ?_;conv=>whnf
     refine G6 (by rw [A4 hne];exact A0 ..) rfl (by omega) rfl (by rfl) ?_;conv=>whnf
     refine D9 (A0 ..) rfl (by omega) (A2 ..) ?_;conv=>whnf
     exact .inl ⟨_,rfl,(hst _).over hb4,F7.cons (Le.refl _) (F7.cons (Le.refl _) (F7.cons (Le.refl _) (F7.cons (Le.refl _) (F7.cons (Le.refl _) (F7.cons (Le.refl _) (F7.cons (Le.refl _) (F7.cons (Le.refl _) (F7.cons (Le.refl _) (F7.cons (Le.refl _) (F7.cons (Le.refl _) (F7.cons (Le.refl _) (F7.cons (Le.refl _) (F7.cons (Le.emp _ _) (F7.cons (Le.emp _ _) (F7.nil)))))))))))))))⟩
    ·rw [show cellsOf (C1 (N8 p id 4))=[eS (I),eI 4,eI (PR),eS (G),eS (C),eB p.closes,D3 [],D3 [],eI (L),eI 0,eI (A3),eI 0,eI 0,B2 3 S7 (O1 p.parts),B2 3 P7 []] from by rw [hI,hPR,hG,hC,hL,hA];rfl];conv=>whnf
     refine A7 (hA3 _) ?_;conv=>whnf
     refine G6 (A0 ..) rfl (by omega) (A2 ..) (by rfl) ?_
     rw [B7];conv=>whnf
     refine G6 (A0 ..) rfl (by omega) (A2 ..) (by rfl) ?_
     rw [B7];conv=>whnf
     refine lp (min p.parts.length 3) [2,4,5,6] (fun i vs s=>∃ sv f,vs=[.fptr (C1 p) 0,.optr 15 b4 0 0,.optr 15 b5 0 0,eI i]∧f 0=.agg ([eS I,eI 4,eI PR,eS G,eS C,eB p.closes,.emp,.emp,eI L,eI 0,eI A3,eI 0,eI 0]++[sv,.emp])∧ROut D7 244 3 (B2h ((p.parts.take 3).map V6)) i (upd (upd st b4 ⟨83,15,1,fun _=>G9 r83.zero⟩) b5 ⟨83,15,1,f⟩) sv s) ?_ ?_
     ·conv=>whnf
      exact ⟨.emp,_,rfl,by (try rw [←hG0]);(try rw [←hC0]);(try rw [←hL0]);first | rfl | (rw [A2];rfl),ROut.start (D7.refl _) _ _ _⟩
     ·rintro i vs s hi ⟨sv,f,rfl,hf,hR⟩
      have hsup:=ROut.sup B1 hR
      have at5:s b5=some ⟨83,15,1,f⟩:=hsup b5 _ (A0 ..)
      have at4:s b4=some ⟨83,15,1,fun _=>G9 r83.zero⟩:=hsup b4 _ (by rw [A4 hne];exact A0 ..)
      have n5:st b5=none:=by rw [A4 (Ne.symm hne)] at hb5;exact hb5
      conv=>whnf
      refine C3 (fun h1=>?_) (fun h1=>?_)<;>rw [h1]<;>simp only [decide_eq_true_eq,decide_eq_false_iff_not] at h1
      case' refine_1 =>
       conv=>whnf
       refine C3 (fun h2=>?_) (fun h2=>?_)<;>rw [h2]<;>simp only [decide_eq_true_eq,decide_eq_false_iff_not] at h2
      case refine_1.refine_1 =>
       have hi':i<min p.parts.length 3:=by omega
       have hsc2:=fun s=>B4i (p.parts.getD (i:Int).toNat default).scope s
       have hpa:=C2Z hi'
       have hm2:=E5 (p.parts.getD (i:Int).toNat default).count (n:=2) (by decide)
       have wc:IntKind.i64.wrap (1+C5 (p.parts.getD (i:Int).toNat default).count 2)=1+C5 (p.parts.getD (i:Int).toNat default).count 2:=A9 (by omega) (by omega)
       have hpp:S7 (V6 (p.parts.getD i default))=.agg [D3 (O7 (p.parts.getD (i:Int).toNat default).scope).skus,D3 (O7 (p.parts.getD (i:Int).toNat default).scope).cats,eI (1+C5 (p.parts.getD (i:Int).toNat default).count 2)]:=rfl
       generalize O7 (p.parts.getD (i:Int).toNat default).scope=S2 at hsc2 hpp
       rcases ROut.head hR with rfl | ⟨bp,rfl⟩
       all_goals
        conv=>whnf
        refine ⟨[19,21],[15],List.range 22,by kernel_rfl,?_⟩;conv=>whnf
        refine D9 at5 rfl (by omega) hf ?_;conv=>whnf
        refine ⟨rfl,⟨by omega,by omega⟩,?_⟩;conv=>whnf
        refine ⟨_,D1 (hsc2 _),?_⟩;conv=>whnf
        refine ⟨rfl,⟨by omega,by omega⟩,?_⟩;conv=>whnf
        refine ⟨_,fun s _=>D1 (A0y _ 2 (by decide) (by decide) s),?_⟩;conv=>whnf
        rw [wc]
        refine ⟨_,⟨rfl,rfl⟩,?_⟩;conv=>whnf
        refine ROut.app (q:=C4W) B1 rfl rfl rfl rfl rfl (f:=B2h ((p.parts.take 3).map V6)) (by show _=S7 _;rw [hpa,hpp];rfl) (by show (i+1) * 56≤140737488355328;omega) hR (fun sv' t2 hR2=>?_)
        have at5':t2 b5=some ⟨83,15,1,f⟩:=ROut.sup B1 hR2 b5 _ (A0 ..)
        rcases ROut.head hR2 with rfl | ⟨bp',rfl⟩
        all_goals
         conv=>whnf
         refine G6 at5' rfl (by omega) hf (by rfl) ?_;conv=>whnf
         refine ⟨rfl,?_⟩;conv=>whnf
         exact nx hi' ⟨_,_,by rw [B9 (by omega)],(by rw [A2];rfl),ROut.put hR2 _⟩
      all_goals
       have hie:i=min p.parts.length 3:=by omega
       obtain ⟨s0,hcol,hss⟩:=hR
       rcases hcol with ⟨h0,rfl,rfl⟩ | ⟨h0,bp,g,hbp,rfl,rfl,hgg⟩
       ·have hPP:=A9S (l:=p.parts) (by omega)
        subst h0
        rw [hPP];conv=>whnf
        refine D9 at5 rfl (by omega) hf ?_;conv=>whnf
        refine G6 at5 rfl (by omega) hf (by rfl) ?_;conv=>whnf
        refine D9 (A0 ..) rfl (by omega) (A2 ..) ?_;conv=>whnf
        refine G6 (by rw [A4 hne];exact at4) rfl (by omega) rfl (by rfl) ?_;conv=>whnf
        refine D9 (A0 ..) rfl (by omega) (A2 ..) ?_;conv=>whnf
        exact .inl ⟨_,rfl,((((D7.refl st).upd hb4).upd hb5).trans hss |>.over n5).over hb4,F7.cons (Le.refl _) (F7.cons (Le.refl _) (F7.cons (Le.refl _) (F7.cons (Le.refl _) (F7.cons (Le.refl _) (F7.cons (Le.refl _) (F7.cons (Le.emp _ _) (F7.cons (Le.emp _ _) (F7.cons (Le.refl _) (F7.cons (Le.refl _) (F7.cons (Le.refl _) (F7.cons (Le.refl _) (F7.cons (Le.refl _) (F7.cons (Le.arr1 (F7.cons (Le.emp _ _) (F7.cons (Le.emp _ _) (F7.cons (Le.refl _) F7.nil))) rfl) (F7.cons (Le.emp _ _) (F7.nil)))))))))))))))⟩
       ·have hPP:=A9T (l:=p.parts) (by omega)
        have hAP:B2 3 S7 (O1 p.parts)=.arr 3 i (B2h ((p.parts.take 3).map V6)):=by unfold B2;rw [hPP,show ((p.parts.take 3).map V6).length=i by rw [List.length_map,List.length_take];omega]
        have hR3:ROut D7 244 3 (B2h ((p.parts.take 3).map V6)) i (upd (upd st b4 ⟨83,15,1,fun _=>G9 r83.zero⟩) b5 ⟨83,15,1,f⟩) (.own 3 bp 0 i) s:=⟨_,.inr ⟨h0,bp,g,hbp,rfl,rfl,hgg⟩,hss⟩
        conv=>whnf
        refine D9 at5 rfl (by omega) hf ?_;conv=>whnf
        rw [show ((i:Int)==0)=false by rw [beq_eq_false_iff_ne];omega];conv=>whnf
        refine D9 at5 rfl (by omega) hf ?_;conv=>whnf
        refine G6 at4 rfl (by omega) rfl (by rfl) ?_;conv=>whnf
        refine D9 (A0 ..) rfl (by omega) (A2 ..) ?_;conv=>whnf
        obtain ⟨base,hsh,hsb⟩:=ROut.shift B1 (ROut.write B1 hR3 (b:=b4) (by rw [A4 hne];exact A0 ..))
        refine .inr ⟨[eS I,eI 4,eI PR,eS G,eS C,eB p.closes,.emp,.emp,eI L,eI 0,eI A3,eI 0,eI 0],.own 3 bp 0 i,.emp,base,rfl,by rw [hAP];exact hsh,((((D7.refl st).upd hb4).upd hb5).over hb4).trans hsb,F7.cons (Le.refl _) (F7.cons (Le.refl _) (F7.cons (Le.refl _) (F7.cons (Le.refl _) (F7.cons (Le.refl _) (F7.cons (Le.refl _) (F7.cons (Le.emp _ _) (F7.cons (Le.emp _ _) (F7.cons (Le.refl _) (F7.cons (Le.refl _) (F7.cons (Le.refl _) (F7.cons (Le.refl _) (F7.cons (Le.refl _) (F7.cons (Le.refl _) (F7.cons (Le.emp _ _) (F7.nil)))))))))))))))⟩
    ·rw [show cellsOf (C1 (N8 p id 5))=[eS (I),eI 5,eI (PR),eS (G),eS (C),eB p.closes,D3 (SC).skus,D3 (SC).cats,eI (L),eI 0,eI 0,eI 0,eI 0,B2 3 S7 [],B2 3 P7 (TS)] from by rw [hI,hPR,hG,hC,hL,hSC,hTS];rfl]
     (try subst hG0);(try subst hC0);(try subst hL0)
     conv=>whnf
     refine A7 (hT5 _) ?_;conv=>whnf
     refine G6 (A0 ..) rfl (by omega) (A2 ..) (by rfl) ?_
     rw [B7];conv=>whnf
     refine D9 (A0 ..) rfl (by omega) (A2 ..) ?_;conv=>whnf
     refine G6 (by rw [A4 hne];exact A0 ..) rfl (by omega) rfl (by rfl) ?_;conv=>whnf
     refine D9 (A0 ..) rfl (by omega) (A2 ..) ?_;conv=>whnf
     exact .inl ⟨_,rfl,(hst _).over hb4,F7.cons (Le.refl _) (F7.cons (Le.refl _) (F7.cons (Le.refl _) (F7.cons (Le.refl _) (F7.cons (Le.refl _) (F7.cons (Le.refl _) (F7.cons (Le.refl _) (F7.cons (Le.refl _) (F7.cons (Le.refl _) (F7.cons (Le.refl _) (F7.cons (Le.refl _) (F7.cons (Le.refl _) (F7.cons (Le.refl _) (F7.cons (Le.emp _ _) (F7.cons (Le.refl _) (F7.nil)))))))))))))))⟩
    ·rw [show cellsOf (C1 (N8 p id 6))=[eS (I),eI 6,eI (PR),eS (G),eS (C),eB p.closes,D3 (SC).skus,D3 (SC).cats,eI (L),eI 0,eI 0,eI 0,eI 0,B2 3 S7 [],B2 3 P7 (TU)] from by rw [hI,hPR,hG,hC,hL,hSC,hTU];rfl]
     (try subst hG0);(try subst hC0);(try subst hL0)
     conv=>whnf
     refine A7 (hT6 _) ?_;conv=>whnf
     refine G6 (A0 ..) rfl (by omega) (A2 ..) (by rfl) ?_
     rw [B7];conv=>whnf
     refine D9 (A0 ..) rfl (by omega) (A2 ..) ?_;conv=>whnf
     refine G6 (by rw [A4 hne];exact A0 ..) rfl (by omega) rfl (by rfl) ?_;conv=>whnf
     refine D9 (A0 ..) rfl (by omega) (A2 ..) ?_;conv=>whnf
     exact .inl ⟨_,rfl,(hst _).over hb4,F7.cons (Le.refl _) (F7.cons (Le.refl _) (F7.cons (Le.refl _) (F7.cons (Le.refl _) (F7.cons (Le.refl _) (F7.cons (Le.refl _) (F7.cons (Le.refl _) (F7.cons (Le.refl _) (F7.cons (Le.refl _) (F7.cons (Le.refl _) (F7.cons (Le.refl _) (F7.cons (Le.refl _) (F7.cons (Le.refl _) (F7.cons (Le.emp _ _) (F7.cons (Le.refl _) (F7.nil)))))))))))))))⟩
    ·rw [show cellsOf (C1 (N8 p id 7))=[eS (I),eI 7,eI (PR),eS (G),eS (C),eB false,D3 [],D3 [],eI (L),eI (1+C5 p.rate 10000),eI 0,eI 0,eI 0,B2 3 S7 [],B2 3 P7 []] from by rw [hI,hPR,hG,hC,hL];rfl]
     (try subst hG0);(try subst hC0);(try subst hL0)
     conv=>whnf
     refine A7 (N7 _ 10000 (by decide) (by decide) _) ?_;conv=>whnf
     rw [wr]
     refine G6 (A0 ..) rfl (by omega) (A2 ..) (by rfl) ?_
     rw [B7];conv=>whnf
     refine G6 (A0 ..) rfl (by omega) (A2 ..) (by rfl) ?_
     rw [B7];conv=>whnf
     refine G6 (A0 ..) rfl (by omega) (A2 ..) (by rfl) ?_
     rw [B7];conv=>whnf
     refine D9 (A0 ..) rfl (by omega) (A2 ..) ?_;conv=>whnf
     refine G6 (by rw [A4 hne];exact A0 ..) rfl (by omega) rfl (by rfl) ?_;conv=>whnf
     refine D9 (A0 ..) rfl (by omega) (A2 ..) ?_;conv=>whnf
     exact .inl ⟨_,rfl,(hst _).over hb4,F7.cons (Le.refl _) (F7.cons (Le.refl _) (F7.cons (Le.refl _) (F7.cons (Le.refl _) (F7.cons (Le.refl _) (F7.cons (Le.refl _) (F7.cons (Le.emp _ _) (F7.cons (Le.emp _ _) (F7.cons (Le.refl _) (F7.cons (Le.refl _) (F7.cons (Le.refl _) (F7.cons (Le.refl _) (F7.cons (Le.refl _) (F7.cons (Le.emp _ _) (F7.cons (Le.emp _ _) (F7.nil)))))))))))))))⟩
theorem C2H (i:Nat) (h:i<6):Int.tmod (IntKind.i64.wrap (IntKind.i64.wrap ((i:Int) * 7)+3)) 10=B7W i:=by
 rw [A9 (x:=(i:Int) * 7) (by omega) (by omega),A9 (by omega) (by omega),Int.tmod_eq_emod_of_nonneg (by omega)];rfl
theorem B2D (l:List B4) (st:St):S P 73 [B2 15 C1 l] st fun v st'=>v=B2 15 C1 (L5 l)∧st'=st:=by
 refine A0Z (ty:=83) ?_
 have hat:∀ i,i<6→U1 l i=A1l (l.getD (i:Int).toNat default) (Int.tmod (IntKind.i64.wrap (IntKind.i64.wrap ((i:Int) * 7)+3)) 10):=fun i hi=>by rw [C2H i hi];rfl
 have hPl:L5 l=(List.range (min l.length 6)).map (U1 l):=rfl
 rw [hPl]
 have hnext:=A4N (U1 l)
 have hS:=fun i=>B4c (l.getD (i:Nat) default)
 generalize U1 l=F at hat hnext ⊢
 refine A8 [] B8 mixed Tryz.func73 (by rfl) rfl rfl rfl ?_;conv=>whnf
 refine lp (min l.length 6) [0,3,4] (fun i vs s=>∃ sv,vs=[B2 15 C1 l,sv,eI i]∧F2 83 15 C1 ((List.range i).map F) st sv s) ?_ ?_
 ·conv=>whnf
  exact ⟨.emp,rfl,F2.start _ _ _ _⟩
 ·rintro i vs s hi ⟨sv,rfl,hc⟩
  have hfin:i=min l.length 6→F2 83 15 C1 ((List.range (min l.length 6)).map F) st sv s:=fun e=>by rw [←e];exact hc
  have hlen:((List.range i).map F).length=i:=by rw [List.length_map,List.length_range]
  conv=>whnf
  refine C3 (fun h1=>?_) (fun h1=>?_)<;>rw [h1]<;>simp only [decide_eq_true_eq,decide_eq_false_iff_not] at h1
  ·conv=>whnf
   refine C3 (fun h2=>?_) (fun h2=>?_)<;>rw [h2]<;>simp only [decide_eq_true_eq,decide_eq_false_iff_not] at h2
   ·have hi':i<min l.length 6:=by omega
    have hF:=hat i (by omega)
    conv=>whnf
    refine ⟨rfl,⟨by omega,by omega⟩,?_⟩;conv=>whnf
    refine A7 (hS (i:Int).toNat _ _) ?_
    generalize hid:Int.tmod (IntKind.i64.wrap (IntKind.i64.wrap ((i:Int) * 7)+3)) 10=ID at hF
    generalize A1l (l.getD (i:Int).toNat default) ID=Y at hF
    conv=>whnf
    refine F2.app (y:=Y) (q:=r83) rfl rfl rfl rfl rfl (by rfl) (by rw [hlen];show (i+1) * 208≤140737488355328;omega) hc (fun sv' t' hc'=>?_);conv=>whnf
    refine ⟨rfl,?_⟩;conv=>whnf
    refine nx hi' ⟨sv',by rw [B9 (by omega)],?_⟩
    rw [hnext,hF];exact hc'
   ·conv=>whnf
    exact hfin (by omega)
  ·conv=>whnf
   exact hfin (by omega)
set_option maxHeartbeats 8000000 in
theorem B4d (r:I4) (st:St):S P 17 [H6 r] st fun v st'=>v=H6 (Z1 r)∧st'=st:=by
 have hE:H6 (Z1 r)=.agg [B2 4 F1 (O0 r.items),B2 15 C1 (L5 r.promos),eB (K2 r.tax).incl,eB (K2 r.tax).byOrder,eI (K2 r.tax).round,B2 4 Q3 (K2 r.tax).zones,eI (C5 r.ship.fee 900),eI (C5 r.ship.free 3 * 4000),
  eI (20+C5 r.policy.window 60),eI (C5 r.policy.grace 40),eI (1+C5 r.policy.mode 3),eI (C5 r.policy.restock 3 * C5 r.policy.restock 2500),A6 (N0 r.policy.order),A6 (N0 r.policy.credit)]:=rfl
 rw [hE]
 clear hE
 have h1:=E5 r.ship.fee (n:=900) (by decide)
 have h2:=E5 r.ship.free (n:=3) (by decide)
 have h3:=E5 r.policy.window (n:=60) (by decide)
 have h5:=E5 r.policy.mode (n:=3) (by decide)
 have h6:=E5 r.policy.restock (n:=3) (by decide)
 have h7:=E5 r.policy.restock (n:=2500) (by decide)
 have h8:C5 r.policy.restock 3 * C5 r.policy.restock 2500≤2 * 2499:=Int.mul_le_mul (by omega) (by omega) (by omega) (by omega)
 have h9:0≤C5 r.policy.restock 3 * C5 r.policy.restock 2500:=Int.mul_nonneg h6.1 h7.1
 have w1:IntKind.i64.wrap (C5 r.ship.free 3 * 4000)=C5 r.ship.free 3 * 4000:=A9 (by omega) (by omega)
 have w2:IntKind.i64.wrap (20+C5 r.policy.window 60)=20+C5 r.policy.window 60:=A9 (by omega) (by omega)
 have w3:IntKind.i64.wrap (1+C5 r.policy.mode 3)=1+C5 r.policy.mode 3:=A9 (by omega) (by omega)
 have w4:IntKind.i64.wrap (C5 r.policy.restock 3 * C5 r.policy.restock 2500)=C5 r.policy.restock 3 * C5 r.policy.restock 2500:=A9 (by omega) (by omega)
 have m1:=fun s=>N7 r.ship.fee 900 (by decide) (by decide) s
 have m2:=fun s=>N7 r.ship.free 3 (by decide) (by decide) s
 have m3:=fun s=>A0y r.policy.window 60 (by decide) (by decide) s
 have m4:=fun s=>A0y r.policy.grace 40 (by decide) (by decide) s
 have m5:=fun s=>A0y r.policy.mode 3 (by decide) (by decide) s
 have m6:=fun s=>N7 r.policy.restock 3 (by decide) (by decide) s
 have m7:=fun s=>N7 r.policy.restock 2500 (by decide) (by decide) s
 have c1:=fun s=>B3Z r.items s
 have c2:=fun s=>B2D r.promos s
 have c3:∀ s,S P 74 [L7 r.tax] s fun v st'=>v=.agg [eB (K2 r.tax).incl,eB (K2 r.tax).byOrder,eI (K2 r.tax).round,B2 4 Q3 (K2 r.tax).zones]∧st'=s:=fun s=>B8p r.tax s
 have c4:=fun s=>A8q r.policy.order s
 have c5:=fun s=>A8q r.policy.credit s
 clear h1 h2 h3 h5 h6 h7 h8 h9
 generalize C5 r.ship.fee 900=M1 at *
 generalize C5 r.ship.free 3=M2 at *
 generalize C5 r.policy.window 60=M3 at *
 generalize C5 r.policy.grace 40=M4 at *
 generalize C5 r.policy.mode 3=M5 at *
 generalize C5 r.policy.restock 3=M6 at *
 generalize C5 r.policy.restock 2500=M7 at *
 generalize O0 r.items=V1 at *
 generalize L5 r.promos=V2 at *
 generalize K2 r.tax=V3 at *
 generalize N0 r.policy.order=V4 at *
 generalize N0 r.policy.credit=V5 at *
 refine A1u ?_
 refine A8 [1,3] B8 mixed Tryz.func17 (by rfl) rfl rfl rfl ?_;conv=>whnf
 intro b2 hb;conv=>whnf
 refine ⟨[45],[],List.range 46,by kernel_rfl,?_⟩;conv=>whnf
 refine ⟨_,D1 (c1 _),?_⟩;conv=>whnf
 refine ⟨_,D1 (c2 _),?_⟩;conv=>whnf
 refine ⟨_,D1 (c3 _),?_⟩;conv=>whnf
 refine ⟨_,D1 (m1 _),?_⟩;conv=>whnf
 refine ⟨_,D1 (m2 _),?_⟩;conv=>whnf
 rw [w1]
 refine ⟨_,D1 (m3 _),?_⟩;conv=>whnf
 rw [w2]
 refine ⟨_,D1 (m4 _),?_⟩;conv=>whnf
 refine ⟨_,D1 (m5 _),?_⟩;conv=>whnf
 rw [w3]
 refine ⟨_,D1 (m6 _),?_⟩;conv=>whnf
 refine ⟨_,D1 (m7 _),?_⟩;conv=>whnf
 rw [w4]
 refine ⟨_,D1 (c4 _),?_⟩;conv=>whnf
 refine ⟨_,D1 (c5 _),?_⟩;conv=>whnf
 refine G6 (A0 ..) rfl (by omega) rfl (by rfl) ?_;conv=>whnf
 refine D9 (A0 ..) rfl (by omega) (A2 ..) ?_;conv=>whnf
 exact ⟨rfl,((D7.refl st).upd hb).over hb⟩
end Go.Proofs.YthdimklenlikgaaGreat
