/- Part 21 of the proof: contracts of the functions that the law reaches -/
import Derived.Test.YtbajhapmlfbelaaGreatQn20
set_option maxRecDepth 100000
set_option linter.unusedVariables false
set_option linter.unusedSimpArgs false
namespace Go.Proofs.YtbajhapmlfbelaaGreat
open Go Go.Ab
attribute [local irreducible] upd del
theorem B6n (a:D8) (st:St):S P 263 [eS a] st fun v st'=>v=.bool false∧st'=st:=by
 refine E3 [] Tryz.func263 ?_
 refine ⟨?_,rfl⟩
 show AV.bool (!(a.toList==a.toList))=_
 simp
def A3s (a b:D8):Int:=if W9 a b=true then -1 else if W9 b a=true then 1 else 0
theorem B0J (a b:D8):(!(Op.bytesLess a.toList b.toList||a.toList==b.toList))=W9 b a:=by
 cases h1:Op.bytesLess a.toList b.toList with
 | true=>rw [A6T (a:=a) (b:=b) h1];rfl
 | false =>
  cases h2:W9 b a with
  | true =>
   have hne:(a.toList==b.toList)=false:=by
    rw [beq_eq_false_iff_ne];intro e
    unfold W9 at h2;rw [e,V1] at h2;cases h2
   rw [hne];rfl
  | false=>rw [A4I (a:=a) (b:=b) h1 h2];simp
theorem B6l (a b:D8) (st:St):S P 192 [eS a,eS b] st fun v st'=>v=eI (A3s a b)∧st'=st:=by
 refine E3 [] Tryz.func192 ?_
 refine H9 (B6n _ _) ?_
 refine H9 (B6n _ _) ?_
 refine B5 (fun h=>?_) (fun h=>?_)<;>rw [h]
 ·conv=>whnf
  exact ⟨by rw [show A3s a b = -1 from if_pos h];rfl,rfl⟩
 ·have h0:¬ W9 a b=true:=by rw [show W9 a b=false from h];simp
  conv=>whnf
  refine B5 (fun h2=>?_) (fun h2=>?_)
  ·have h3:W9 b a=true:=by rw [←B0J a b];exact h2
   rw [h2];conv=>whnf
   exact ⟨by rw [show A3s a b=1 by unfold A3s;rw [if_neg h0,if_pos h3]];rfl,rfl⟩
  ·have h3:¬ W9 b a=true:=by rw [←B0J a b,Bool.not_eq_true];exact h2
   rw [h2];conv=>whnf
   exact ⟨by rw [show A3s a b=0 by unfold A3s;rw [if_neg h0,if_neg h3]];rfl,rfl⟩
theorem A7j (a b:Ab.Item) (st:St):S P 201 [C6 a,C6 b] st fun v st'=>v=eI (A3s a.sku b.sku)∧st'=st:=by
 refine E3 [2,3] Tryz.func201 ?_
 refine H9 (B6l _ _ _) ?_
 exact ⟨rfl,rfl⟩
theorem A4X (a b:D8):decide (A3s a b<0)=W9 a b:=by
 unfold A3s
 split
 ·rename_i h;rw [h];rfl
 ·rename_i h
  rw [Bool.not_eq_true] at h
  rw [h];split<;>rfl
theorem B1x (a b:D8):(A3s a b==0)=(a.toList==b.toList):=by
 unfold A3s
 split
 ·rename_i h
  have:(a.toList==b.toList)=false:=by
   rw [beq_eq_false_iff_ne];intro e
   unfold W9 at h;rw [e,V1] at h;cases h
  rw [this];rfl
 ·split
  ·rename_i h1 h
   have:(a.toList==b.toList)=false:=by
    rw [beq_eq_false_iff_ne];intro e
    unfold W9 at h;rw [e,V1] at h;cases h
   rw [this];rfl
  ·rename_i h1 h2
   rw [Bool.not_eq_true] at h1 h2
   rw [A4I h1 h2];simp
abbrev skus (l:List Ab.Item):List D8:=l.map Ab.Item.sku
theorem A7Q (l:List Ab.Item) {k:Nat} (hk:k<l.length):(skus l).getD k default=(l.getD k default).sku:=E7 Ab.Item.sku l hk
def A3d (l:List D8):Bool:=(List.range l.length).all (A0h l)
theorem B4k (l:List Ab.Item) (hl:l.length≤9223372036854775807) (st:St):S P 200 [A5 4 C6 l,.fn (.func 201) [] []] st fun v st'=>v=.bool (A3d (skus l))∧st'=st:=by
 refine E3 [] Tryz.func200 ?_
 have hlen:(skus l).length=l.length:=List.length_map ..
 refine ⟨[0,1,5],fun m vs st'=>∃ i:Int,-1≤i∧i<l.length∧(∀ k:Nat,i<k→k<l.length→A0h (skus l) k=true)∧m=(i+1).toNat∧vs=[A5 4 C6 l,.fn (.func 201) [] [],eI i]∧st'=st,?_,?_⟩
 ·conv=>whnf
  have w:IntKind.i64.wrap ((l.length:Int) - 1)=(l.length:Int) - 1:=B0 (by omega) (by omega)
  exact ⟨_,(l.length:Int) - 1,by omega,by omega,fun k h1 h2=>by omega,rfl,by rw [w],rfl⟩
 ·rintro m vs st' ⟨i,h0,hi,hok,rfl,rfl,rfl⟩
  conv=>whnf
  cases h:decide (i>0)
  ·have:=of_decide_eq_false h
   conv=>whnf
   refine ⟨?_,rfl⟩
   rw [show A3d (skus l)=true from A9t fun k hk=>?_];rfl
   rw [hlen] at hk
   rcases Nat.eq_zero_or_pos k with e | e
   ·subst e;rfl
   ·exact hok k (by omega) hk
  ·have hp:=of_decide_eq_true h
   have w:IntKind.i64.wrap (i - 1)=i - 1:=B0 (by omega) (by omega)
   conv=>whnf
   refine ⟨[],[],[0,1,2,3,4,5,6,7,8,9,10,11],by kernel_rfl,?_⟩;conv=>whnf
   refine G9 ?_
   rw [w]
   refine G9 ?_
   refine cqW (A7j (l.getD i.toNat default) (l.getD (i - 1).toNat default) _) ?_
   rw [A4X]
   have e:A0h (skus l) i.toNat=!W9 (l.getD i.toNat default).sku (l.getD (i - 1).toNat default).sku:=by
    unfold A0h
    rw [beq_false_of_ne (by omega),Bool.false_or,A7Q l (by omega),A7Q l (by omega),show i.toNat - 1=(i - 1).toNat by omega]
   refine B5 (fun h2=>?_) (fun h2=>?_)
   ·rw [h2] at e ⊢;conv=>whnf
    refine ⟨?_,rfl⟩
    rw [show A3d (skus l)=false from A1L (k:=i.toNat) (by omega) e];rfl
   ·rw [h2] at e ⊢;conv=>whnf
    refine H4 ?_
    exact ⟨i.toNat,by omega,i - 1,by omega,by omega,fun k h1 h2=>by
     rcases (by omega:k=i.toNat∨i<k) with e' | e'
     ·rw [e'];exact e
     ·exact hok k e' h2,by omega,by rw [w],rfl⟩
theorem B5g (s:D8) (x:Ab.Item) (st:St):S P 203 [C6 x,.fptr (eS s) 0] st fun v st'=>v=.bool (x.sku.toList==s.toList)∧st'=st:=by
 refine E3 [2] Tryz.func203 ?_
 exact ⟨rfl,rfl⟩
abbrev F7 (l:List Ab.Item) (s:D8):Int:=idx (fun x=>x.sku.toList==s.toList) l
theorem B5m {i j:Int} (hi:0≤i) (hij:i<j) (hj:j≤9223372036854775807):IntKind.i64.wrap ((IntKind.u64.wrap (IntKind.i64.wrap (i+j))).fdiv (2 ^ (min (1:Int).toNat IntKind.u64.bits)))=(i+j) / 2:=by
 have w:IntKind.u64.wrap (IntKind.i64.wrap (i+j))=i+j:=by
  rw [IntKind.wrap_i64]
  show (_:Int) % 18446744073709551616=_
  omega
 rw [w]
 rw [show (min (1:Int).toNat IntKind.u64.bits)=1 from rfl,Int.fdiv_eq_ediv_of_nonneg _ (by decide)]
 rw [show ((2:Int) ^ 1)=2 from rfl,B0 (x:=(i+j) / 2) (by omega) (by omega)]
theorem B3X (l:List Ab.Item) (x:Ab.Item) (hl:l.length≤9223372036854775807) (hs:A3d (skus l)=true) (st:St) :
  S P 204 [A5 4 C6 l,C6 x,.fn (.func 201) [] []] st fun v st'=>(∃ (i:Nat) (b:Bool),v=.tuple [eI i,.bool b]∧(if b=true then F7 l x.sku=i else F7 l x.sku = -1))∧st'=st:=by
 refine E3 [4] Tryz.func204 ?_
 have hlen:(skus l).length=l.length:=List.length_map ..
 have hmono:∀ a b:Nat,a≤b→b<l.length→W9 (l.getD b default).sku (l.getD a default).sku=false:=fun a b hab hb=>by
  have:=A9e (l:=skus l) (fun k hk=>List.all_eq_true.1 hs k (List.mem_range.2 hk)) hab (by omega)
  rwa [A7Q l hb,A7Q l (by omega)] at this
 refine ⟨[0,2,4,8,9,10],fun m vs st'=>∃ i j:Nat,i≤j∧j≤l.length∧(∀ k,k<i→W9 (l.getD k default).sku x.sku=true)∧(∀ k,j≤k→k<l.length→W9 (l.getD k default).sku x.sku=false)∧m=j - i ∧
  vs=[A5 4 C6 l,.fn (.func 201) [] [],.fptr (C6 x) 0,eI l.length,eI i,eI j]∧st'=st,?_,?_⟩
 ·conv=>whnf
  exact ⟨_,0,l.length,Nat.zero_le _,Nat.le_refl _,fun k hk=>absurd hk (by omega),fun k h1 h2=>absurd h1 (by omega),rfl,rfl,rfl⟩
 ·rintro m vs st' ⟨i,j,hij,hj,hlo,hhi,rfl,rfl,rfl⟩
  conv=>whnf
  cases h:decide ((i:Int)<(j:Int))
  ·have:=of_decide_eq_false h
   obtain rfl:i=j:=by omega
   conv=>whnf
   refine ⟨[],[],[0,1,2,3,4,5,6,7,8,9,10,11,12,13,14,15],by kernel_rfl,?_⟩;conv=>whnf
   have hne:∀ k,k<i→((l.getD k default).sku.toList==x.sku.toList)=false:=fun k hk=>by
    rw [beq_eq_false_iff_ne];intro e
    have:=hlo k hk
    unfold W9 at this;rw [e,V1] at this;cases this
   refine B5 (fun h1=>?_) (fun h1=>?_)<;>rw [h1]<;>simp only [decide_eq_true_eq,decide_eq_false_iff_not] at h1
   ·conv=>whnf
    refine G9 ?_
    refine cqW (A7j (l.getD (i:Int).toNat default) x _) ?_
    rw [B1x]
    refine ⟨⟨i,(l.getD (i:Int).toNat default).sku.toList==x.sku.toList,rfl,?_⟩,rfl⟩
    split
    ·rename_i he
     exact R6 (by omega) hne he
    ·rename_i he
     rw [Bool.not_eq_true] at he
     have hlt:W9 (l.getD i default).sku x.sku=false:=hhi i (Nat.le_refl _) (by omega)
     refine J0 fun k hk=>?_
     rcases Nat.lt_or_ge k i with hki | hki
     ·exact hne k hki
     ·rw [beq_eq_false_iff_ne];intro e
      have h3:=hmono i k hki hk
      rw [beq_eq_false_iff_ne] at he
      refine he (A4I hlt ?_)
      rw [←B2k (a:=(l.getD k default).sku) e rfl];exact h3
   ·conv=>whnf
    refine ⟨⟨i,false,rfl,?_⟩,rfl⟩
    rw [if_neg (by simp)]
    exact J0 fun k hk=>hne k (by omega)
  ·have hlt:=of_decide_eq_true h
   conv=>whnf
   rw [B5m (i:=i) (j:=j) (by omega) (by omega) (by omega)]
   have eh:((i:Int)+(j:Int)) / 2=(((i+j) / 2:Nat):Int):=by omega
   rw [eh]
   generalize hh:(i+j) / 2=mid at *
   refine ⟨[],[],[0,1,2,3,4,5,6,7],by kernel_rfl,?_⟩;conv=>whnf
   refine G9 ?_
   refine cqW (A7j (l.getD (mid:Int).toNat default) x _) ?_
   rw [A4X]
   refine B5 (fun h1=>?_) (fun h1=>?_)
   ·have h1':W9 (l.getD mid default).sku x.sku=true:=h1
    rw [h1];conv=>whnf
    refine H4 ?_
    refine ⟨j - (mid+1),by omega,mid+1,j,by omega,hj,fun k hk=>?_,hhi,rfl,by rw [B7 (by omega)],rfl⟩
    cases hk2:W9 (l.getD k default).sku x.sku with
    | true=>rfl
    | false =>
     have h3:=hmono k mid (by omega) (by omega)
     have:=A1P hk2 (show W9 (l.getD mid default).sku (l.getD k default).sku=false from h3)
     rw [h1'] at this
     cases this
   ·have h1':W9 (l.getD mid default).sku x.sku=false:=h1
    rw [h1];conv=>whnf
    refine H4 ?_
    refine ⟨mid - i,by omega,i,mid,by omega,by omega,hlo,fun k h2 h3=>?_,rfl,rfl,rfl⟩
    exact A1P (b:=(l.getD mid default).sku) (by exact h1') (hmono mid k h2 h3)
theorem A7p (l:List Ab.Item) (s:D8) (hl:l.length≤9223372036854775807) (st:St):S P 114 [A5 4 C6 l,eS s] st fun v st'=>v=eI (F7 l s)∧st'=st:=by
 refine E3 [3,5] Tryz.func114 ?_
 refine H9 (B4k l (by omega) _) ?_
 refine B5 (fun h=>?_) (fun h=>?_)
 ·rw [h];conv=>whnf
  refine H9 (A7t l (by omega) _ [.fptr (eS s) 0] (fun x=>x.sku.toList==s.toList) _ fun x _=>B5g s x _) ?_
  exact ⟨rfl,rfl⟩
 ·rw [h]
  have hs:A3d (skus l)=true:=by simpa using h
  conv=>whnf
  refine call (B3X l ⟨s,⟨#[]⟩,0,false⟩ hl hs _) (fun v st' hv=>?_)
  obtain ⟨⟨i,b,rfl,hb⟩,rfl⟩:=hv
  conv=>whnf
  cases b with
  | true =>
   conv=>whnf
   rw [if_pos rfl] at hb
   exact ⟨by rw [show F7 l s=i from hb];rfl,rfl⟩
  | false =>
   conv=>whnf
   rw [if_neg (by simp)] at hb
   exact ⟨by rw [show F7 l s = -1 from hb];rfl,rfl⟩
def P4 (l:List G1):Int:=l.foldl (fun s x=>s+x.qty) 0
def O9 (l:List G1):Int:=l.foldl (fun s x=>s+x.qty * x.price) 0
theorem A1I (x:G1):Z9 x=true↔(0≤x.qty∧x.qty≤100000)∧(0≤x.price∧x.price≤1000000000):=by
 simp [Z9,upB]
theorem B3B {x:G1} (h:Z9 x=true):0≤x.qty * x.price∧x.qty * x.price≤100000000000000:=by
 obtain ⟨⟨a,b⟩,c,d⟩:=(A1I x).1 h
 exact ⟨Int.mul_nonneg a c,Int.mul_le_mul b d c (by omega)⟩
theorem B7E (l:List G1) (hl:l.length≤1000) (hok:∀ x∈l,Z9 x=true) (st:St):S P 276 [A5 3 F2 l] st fun v st'=>v=.tuple [eI (P4 l),eI (O9 l)]∧st'=st:=by
 refine E3 [7] Tryz.func276 ?_
 refine ⟨[4,5,8,9,10],fun m vs st'=>∃ i:Nat,i≤l.length∧(0≤P4 (l.take i)∧P4 (l.take i)≤i * 100000)∧(0≤O9 (l.take i)∧O9 (l.take i)≤i * 100000000000000)∧m=l.length - i∧vs=[eI (P4 (l.take i)),eI (O9 (l.take i)),A5 3 F2 l,eI l.length,eI i]∧st'=st,?_,?_⟩
 ·conv=>whnf
  exact ⟨_,0,Nat.zero_le _,⟨Int.le_refl _,by simp [P4]⟩,⟨Int.le_refl _,by simp [O9]⟩,rfl,rfl,rfl⟩
 ·rintro m vs st' ⟨i,hi,hu,hg,rfl,rfl,rfl⟩
  conv=>whnf
  cases h:decide ((i:Int)<(l.length:Int))
  ·have:=of_decide_eq_false h
   obtain rfl:i=l.length:=by omega
   conv=>whnf
   refine ⟨?_,rfl⟩
   rw [List.take_length];rfl
  ·have hi':i<l.length:=by have:=of_decide_eq_true h;omega
   have hmem:l.getD (i:Int).toNat default∈l:=by
    rw [Int.toNat_natCast,List.getD_eq_getElem?_getD,List.getElem?_eq_getElem hi'];exact List.getElem_mem hi'
   have hx:=hok _ hmem
   obtain ⟨⟨q0,q1⟩,_⟩:=(A1I _).1 hx
   obtain ⟨m0,m1⟩:=B3B hx
   have eu:P4 (l.take (i+1))=P4 (l.take i)+(l.getD (i:Int).toNat default).qty:=R4 hi' _ _
   have eg:O9 (l.take (i+1))=O9 (l.take i)+(l.getD (i:Int).toNat default).qty * (l.getD (i:Int).toNat default).price:=R4 hi' _ _
   have w1:IntKind.i64.wrap (P4 (l.take i)+(l.getD (i:Int).toNat default).qty)=P4 (l.take (i+1)):=by rw [eu];exact B0 (by omega) (by omega)
   have w2:IntKind.i64.wrap ((l.getD (i:Int).toNat default).qty * (l.getD (i:Int).toNat default).price)=(l.getD (i:Int).toNat default).qty * (l.getD (i:Int).toNat default).price:=B0 (by omega) (by omega)
   have w3:IntKind.i64.wrap (O9 (l.take i)+(l.getD (i:Int).toNat default).qty * (l.getD (i:Int).toNat default).price)=O9 (l.take (i+1)):=by rw [eg];exact B0 (by omega) (by omega)
   conv=>whnf
   refine G9 ?_
   refine H4 ?_
   refine ⟨l.length - (i+1),by omega,i+1,by omega,?_,?_,rfl,?_,rfl⟩
   ·rw [eu];omega
   ·rw [eg];omega
   ·rw [B7 (by omega),←w1,←w3,w2]
def M5 (kn:D8→Bool) (x:G1):Bool:=!(kn x.sku&&Z9 x)
def R3 (kn:D8→Bool) (l:List G1):Int :=
 if l.length>1000 then 6 else match l.find? (M5 kn) with
  | some x=>if kn x.sku=true then 2 else 7
  | none=>if (decide (P4 l>100000)||decide (O9 l>10000000000000))=true then 5 else 0
theorem A3x {α : Type} [Inhabited α] {p : α→Bool} {l:List α} {i:Nat} (hi:i<l.length) (h:∀ k,k<i→p (l.getD k default)=false) (hp:p (l.getD i default)=true):l.find? p=some (l.getD i default):=by
 induction l generalizing i with
 | nil=>simp at hi
 | cons a l ih =>
  cases i with
  | zero=>simp only [List.getD_cons_zero] at hp ⊢;rw [List.find?_cons_of_pos hp]
  | succ i =>
   have h0:=h 0 (by omega)
   simp only [List.getD_cons_zero] at h0
   rw [List.find?_cons_of_neg (by simp [h0])]
   simp only [List.getD_cons_succ] at hp ⊢
   exact ih (by simpa using hi) (fun k hk=>by simpa using h (k+1) (by omega)) hp
theorem A6D {α : Type} [Inhabited α] {p : α→Bool} {l:List α} (h:∀ k,k<l.length→p (l.getD k default)=false):l.find? p=none:=by
 rw [List.find?_eq_none]
 intro x hx
 obtain ⟨i,hi,rfl⟩:=List.getElem_of_mem hx
 have:=h i hi
 simpa [hi] using this
theorem A7 {α : Type} [Inhabited α] {l:List α} {i:Nat} (hi:i<l.length):l.getD i default∈l:=by
 rw [List.getD_eq_getElem?_getD,List.getElem?_eq_getElem hi];exact List.getElem_mem hi
theorem E4 {α : Type} [Inhabited α] {l:List α} {x : α} (h:x∈l):∃ i,i<l.length∧x=l.getD i default:=by
 obtain ⟨i,hi,rfl⟩:=List.getElem_of_mem h
 exact ⟨i,hi,by simp [hi]⟩
theorem B0B (l:List G1) (kn:D8→Bool) (g:FuncId) (cs:List AV) (st:St) (hg:∀ x∈l,S P g (eS x.sku::cs) st fun v st'=>v=.bool (kn x.sku)∧st'=st) :
  S P 195 [A5 3 F2 l,.fn (.func g) [] cs] st fun v st'=>v=eI (R3 kn l)∧st'=st:=by
 refine E3 [6] Tryz.func195 ?_
 refine B5 (fun h=>?_) (fun h=>?_)<;>rw [h]<;>simp only [decide_eq_true_eq,decide_eq_false_iff_not] at h
 ·conv=>whnf
  exact ⟨by rw [show R3 kn l=6 from if_pos (by omega)];rfl,rfl⟩
 have hs:l.length≤1000:=by omega
 have hc:R3 kn l=match l.find? (M5 kn) with
  | some x=>if kn x.sku=true then 2 else 7
  | none=>if (decide (P4 l>100000)||decide (O9 l>10000000000000))=true then 5 else 0:=if_neg (by omega)
 conv=>whnf
 refine ⟨[0,1,12,13,14],fun m vs st'=>∃ i:Nat,i≤l.length∧(∀ k,k<i→M5 kn (l.getD k default)=false)∧m=l.length - i∧vs=[A5 3 F2 l,.fn (.func g) [] cs,A5 3 F2 l,eI l.length,eI i]∧st'=st,?_,?_⟩
 ·conv=>whnf
  exact ⟨_,0,Nat.zero_le _,fun k hk=>absurd hk (by omega),rfl,rfl,rfl⟩
 ·rintro m vs st' ⟨i,hi,hok,rfl,rfl,rfl⟩
  conv=>whnf
  cases h:decide ((i:Int)<(l.length:Int))
  ·have:=of_decide_eq_false h
   rw [A6D fun k hk=>hok k (by omega)] at hc
   have hall:∀ x∈l,Z9 x=true:=fun x hx=>by
    obtain ⟨k,hk,rfl⟩:=E4 hx
    have:=hok k (by omega)
    simp only [M5,Bool.not_eq_false',Bool.and_eq_true] at this
    exact this.2
   conv=>whnf
   refine H9 (B7E l hs hall _) ?_
   refine B5 (fun h1=>?_) (fun h1=>?_)
   ·rw [h1] at hc ⊢;conv=>whnf
    exact ⟨by rw [hc];rfl,rfl⟩
   ·rw [h1] at hc ⊢;conv=>whnf
    refine B5 (fun h2=>?_) (fun h2=>?_)
    ·rw [h2] at hc ⊢;conv=>whnf
     exact ⟨by rw [hc];rfl,rfl⟩
    ·rw [h2] at hc ⊢;conv=>whnf
     exact ⟨by rw [hc];rfl,rfl⟩
  ·have hi':i<l.length:=by have:=of_decide_eq_true h;omega
   have hmem:l.getD (i:Int).toNat default∈l:=A7 hi'
   conv=>whnf
   refine G9 ?_
   refine H9 (hg _ hmem) ?_
   refine B5 (fun h1=>?_) (fun h1=>?_)
   ·have hk:kn (l.getD (i:Int).toNat default).sku=false:=by simpa using h1
    rw [h1];conv=>whnf
    rw [A3x hi' hok (by show M5 kn (l.getD (i:Int).toNat default)=true;unfold M5;rw [hk];rfl)] at hc
    simp only at hc
    rw [if_neg (by rw [show kn (l.getD i default).sku=false from hk];simp)] at hc
    exact ⟨by rw [hc];rfl,rfl⟩
   ·have hk:kn (l.getD (i:Int).toNat default).sku=true:=by simpa using h1
    rw [h1];conv=>whnf
    refine H9 (B7a (l.getD (i:Int).toNat default) _) ?_
    refine B5 (fun h2=>?_) (fun h2=>?_)
    ·have hl:Z9 (l.getD (i:Int).toNat default)=false:=by simpa using h2
     rw [h2];conv=>whnf
     rw [A3x hi' hok (by show M5 kn (l.getD (i:Int).toNat default)=true;unfold M5;rw [hl,Bool.and_false];rfl)] at hc
     simp only at hc
     rw [if_pos (show kn (l.getD i default).sku=true from hk)] at hc
     exact ⟨by rw [hc];rfl,rfl⟩
    ·have hl:Z9 (l.getD (i:Int).toNat default)=true:=by simpa using h2
     rw [h2];conv=>whnf
     refine H4 ?_
     exact ⟨l.length - (i+1),by omega,i+1,by omega,K0 hok (by show M5 kn (l.getD (i:Int).toNat default)=false;unfold M5;rw [hk,hl];rfl),rfl,by rw [B7 (by omega)],rfl⟩
theorem B2X (s:D8) (st:St):S P 234 [eS s] st fun v st'=>v=.bool true∧st'=st:=by
 refine E3 [] Tryz.func234 ?_
 exact ⟨rfl,rfl⟩
theorem B8k (l:List G1) (st:St):S P 144 [A5 3 F2 l] st fun v st'=>v=.bool (R3 (fun _=>true) l==0)∧st'=st:=by
 refine E3 [] Tryz.func144 ?_
 refine H9 (B0B l (fun _=>true) _ [] _ fun x _=>B2X x.sku _) ?_
 exact ⟨rfl,rfl⟩
theorem B5q (items:List Ab.Item) (hl:items.length≤9223372036854775807) (s:D8) (st:St):S P 196 [eS s,.fptr (A5 4 C6 items) 0] st fun v st'=>v=.bool (decide (F7 items s≥0))∧st'=st:=by
 refine E3 [] Tryz.func196 ?_
 refine H9 (A7p items s hl _) ?_
 exact ⟨rfl,rfl⟩
def known (items:List Ab.Item) (s:D8):Bool:=decide (F7 items s≥0)
theorem B4K (items:List Ab.Item) (l:List G1) (hl:items.length≤9223372036854775807) (st:St):S P 102 [A5 4 C6 items,A5 3 F2 l] st fun v st'=>v=eI (R3 (known items) l)∧st'=st:=by
 refine E3 [2] Tryz.func102 ?_
 refine H9 (B0B l (known items) _ [.fptr (A5 4 C6 items) 0] _ fun x _=>B5q items hl x.sku _) ?_
 exact ⟨rfl,rfl⟩
def C2 (items:List Ab.Item) (l:List G1):List Ab.Item:=l.map fun x=>items.getD (F7 items x.sku).toNat default
theorem A6F (items:List Ab.Item) (l:List G1) (hi:items.length≤9223372036854775807) (hl:l.length≤1000) (hk:∀ x∈l,known items x.sku=true) (st:St):S P 75 [A5 4 C6 items,A5 3 F2 l] st fun v st'=>v=A5 4 C6 (C2 items l)∧st'=st:=by
 have he:A5 4 C6 (C2 items l)=.arr 4 l.length (fun k=>C6 ((C2 items l).getD k default)):=by unfold A5;rw [show (C2 items l).length=l.length from List.length_map ..]
 rw [he]
 refine B2N (ty:=64) ?_
 refine E3 [7] Tryz.func75 ?_
 refine ⟨[0,5,9,10,11],fun m vs st'=>∃ (i:Nat) (sv:AV),i≤l.length∧m=l.length - i∧vs=[A5 4 C6 items,sv,A5 3 F2 l,eI l.length,eI i]∧H6 64 4 (fun k=>C6 ((C2 items l).getD k default)) st i sv st',?_,?_⟩
 ·conv=>whnf
  exact ⟨_,0,.emp,Nat.zero_le _,rfl,rfl,H6.start _ _ _ _⟩
 ·rintro m vs st' ⟨i,sv,hi,rfl,rfl,hc⟩
  conv=>whnf
  cases h:decide ((i:Int)<(l.length:Int))
  ·have:=of_decide_eq_false h
   obtain rfl:i=l.length:=by omega
   conv=>whnf
   exact hc
  ·have hi':i<l.length:=by have:=of_decide_eq_true h;omega
   have hmem:l.getD (i:Int).toNat default∈l:=A7 hi'
   have hkn:=hk _ hmem
   simp only [known,decide_eq_true_eq] at hkn
   have hlt:F7 items (l.getD (i:Int).toNat default).sku<(items.length:Int):=(A3C (fun x:Ab.Item=>x.sku.toList==(l.getD (i:Int).toNat default).sku.toList) items).2
   conv=>whnf
   refine G9 ?_
   refine H9 (A7p items (l.getD (i:Int).toNat default).sku (by omega) _) ?_
   refine B5 (fun h1=>?_) (fun h1=>?_)
   ·exact absurd (of_decide_eq_true h1) (by omega)
   ·rw [h1];conv=>whnf
    refine G9 ?_
    refine H6.app rfl rfl rfl rfl rfl ?_ (by show (i+1) * 48≤140737488355328;omega) hc (fun sv' st'' hc'=>?_)
    ·have e:(C2 items l).getD i default=items.getD (F7 items (l.getD i default).sku).toNat default:=E7 (fun x:G1=>items.getD (F7 items x.sku).toNat default) l hi'
     rw [e];rfl
    conv=>whnf
    refine H4 ?_
    exact ⟨l.length - (i+1),by omega,i+1,sv',by omega,rfl,by rw [B7 (by omega)],hc'⟩
end Go.Proofs.YtbajhapmlfbelaaGreat
namespace Go.Ab
abbrev QE:=Int×Int
def D6 (a b:QE):Bool:=decide (a.1>b.1)||(a.1==b.1&&decide (a.2<b.2))
theorem A3H (a b:QE):D6 a b=true↔a.1>b.1∨(a.1=b.1∧a.2<b.2):=by simp [D6]
theorem W4 (a b:QE):D6 a b=false↔¬(a.1>b.1∨(a.1=b.1∧a.2<b.2)):=by rw [←A3H,Bool.not_eq_true]
theorem Q1 {a b:QE} (h:D6 a b=true):D6 b a=false:=by rw [A3H] at h;rw [W4];omega
theorem U8 (a:QE):D6 a a=false:=by rw [W4];omega
theorem Q0 {a b c:QE} (h:D6 a b=false) (k:D6 b c=false):D6 a c=false:=by rw [W4] at *;omega
theorem B7b {a b c:QE} (h:D6 a b=false) (k:D6 c b=true):D6 a c=false:=by rw [W4] at *;rw [A3H] at k;omega
theorem B2b {a b:QE} (h:D6 a b=false) (k:D6 b a=false):a=b:=by
 rw [W4] at *
 exact Prod.ext (by omega) (by omega)
abbrev at_ (l:List QE) (k:Nat):QE:=l.getD k default
def swp (l:List QE) (i j:Nat):List QE:=(l.set i (at_ l j)).set j (at_ l i)
theorem A8a (l:List QE) (i j:Nat):(swp l i j).length=l.length:=by simp [swp]
theorem A2x {l:List QE} {i j:Nat} (hi:i<l.length) (hj:j<l.length) (k:Nat):at_ (swp l i j) k=if k=j then at_ l i else if k=i then at_ l j else at_ l k:=by
 unfold swp at_
 simp only [List.getD_eq_getElem?_getD,List.getElem?_set,List.length_set]
 by_cases h1:k=j
 ·subst h1;simp [hj]
 ·rw [if_neg (fun e=>h1 e.symm),if_neg h1]
  by_cases h2:k=i
  ·subst h2;simp [hi]
  ·rw [if_neg (fun e=>h2 e.symm),if_neg h2]
theorem A5P {l:List QE} {i j:Nat} (hi:i<l.length) (hj:j<l.length):(swp l i j).Perm l:=by
 have e1:at_ l j=l[j]:=by simp [at_,hj]
 have e2:at_ l i=l[i]:=by simp [at_,hi]
 unfold swp
 rw [e1,e2]
 exact List.set_set_perm hi hj
def Nah (l:List QE) (c p:Nat):Prop:=D6 (at_ l c) (at_ l p)=false
def M0 (c:Nat):Nat:=(c - 1) / 2
def A0W (l:List QE) (m:Nat):Prop:=∀ c,0<c→c<m→Nah l c (M0 c)
structure Rise (l:List QE) (m j:Nat):Prop where
 a:∀ c,0<c→c<m→c≠j→Nah l c (M0 c)
 b:∀ c,0<c→c<m→M0 c=j→0<j→Nah l c (M0 j)
structure Sink (l:List QE) (m i:Nat):Prop where
 a:∀ c,0<c→c<m→M0 c≠i→Nah l c (M0 c)
 b:∀ c,0<c→c<m→M0 c=i→0<i→Nah l c (M0 i)
theorem Rise.done {l:List QE} {m j:Nat} (h:Rise l m j) (hj:j=0∨Nah l j (M0 j)):A0W l m:=fun c h0 hc=>by
 by_cases e:c=j
 ·subst e;rcases hj with hj | hj
  ·omega
  ·exact hj
 ·exact h.a c h0 hc e
theorem Rise.step {l:List QE} {m j:Nat} (h:Rise l m j) (hm:m≤l.length) (hj:j<m) (h0:0<j) (ha:D6 (at_ l j) (at_ l (M0 j))=true):Rise (swp l (M0 j) j) m (M0 j):=by
 have hp:M0 j<j:=by unfold M0;omega
 have sw:=A2x (l:=l) (i:=M0 j) (j:=j) (by omega) (by omega)
 refine ⟨fun c hc0 hcm hne=>?_,fun c hc0 hcm hpc hp0=>?_⟩
 ·have hpc:M0 c<c:=by unfold M0;omega
  unfold Nah
  rw [sw c,sw (M0 c)]
  by_cases ecj:c=j
  ·subst ecj
   rw [if_pos rfl,if_neg (by omega),if_pos rfl]
   exact Q1 ha
  ·rw [if_neg ecj,if_neg hne]
   by_cases epj:M0 c=j
   ·rw [if_pos epj];exact h.b c hc0 hcm epj h0
   ·rw [if_neg epj]
    by_cases epi:M0 c=M0 j
    ·rw [if_pos epi]
     have:=h.a c hc0 hcm ecj
     unfold Nah at this;rw [epi] at this
     exact B7b this ha
    ·rw [if_neg epi];exact h.a c hc0 hcm ecj
 ·have hpp:M0 (M0 j)<M0 j:=by unfold M0 at *;omega
  have hpj:=h.a (M0 j) hp0 (by omega) (by omega)
  unfold Nah at *
  rw [sw c,sw (M0 (M0 j)),if_neg (show ¬ M0 (M0 j)=j by omega),if_neg (show ¬ M0 (M0 j)=M0 j by omega)]
  by_cases ecj:c=j
  ·rw [if_pos ecj];exact hpj
  ·rw [if_neg ecj,if_neg (show ¬ c=M0 j by unfold M0 at *;omega)]
   have:=h.a c hc0 hcm ecj
   unfold Nah at this;rw [hpc] at this
   exact Q0 this hpj
theorem Sink.done {l:List QE} {m i:Nat} (h:Sink l m i) (hc:∀ c,0<c→c<m→M0 c=i→Nah l c i):A0W l m:=fun c h0 hcm=>by
 by_cases e:M0 c=i
 ·rw [e];exact hc c h0 hcm e
 ·exact h.a c h0 hcm e
theorem Sink.step {l:List QE} {m i j:Nat} (h:Sink l m i) (hm:m≤l.length) (hj:j<m) (h0:0<j) (hp:M0 j=i) (ha:D6 (at_ l j) (at_ l i)=true)
  (hb:∀ c,0<c→c<m→M0 c=i→Nah l c j):Sink (swp l i j) m j:=by
 have hij:i<j:=by rw [←hp];unfold M0;omega
 have sw:=A2x (l:=l) (i:=i) (j:=j) (by omega) (by omega)
 refine ⟨fun c hc0 hcm hne=>?_,fun c hc0 hcm hpc hp0=>?_⟩
 ·have hpc:M0 c<c:=by unfold M0;omega
  unfold Nah
  rw [sw c,sw (M0 c),if_neg hne]
  by_cases ecj:c=j
  ·subst ecj
   rw [if_pos rfl,if_pos hp]
   exact Q1 ha
  ·rw [if_neg ecj]
   by_cases epi:M0 c=i
   ·rw [if_pos epi,if_neg (by omega)]
    exact hb c hc0 hcm epi
   ·rw [if_neg epi]
    by_cases eci:c=i
    ·rw [if_pos eci]
     subst eci
     exact h.b j h0 hj hp hc0
    ·rw [if_neg eci];exact h.a c hc0 hcm epi
 ·have:j<c:=by unfold M0 at hpc;omega
  unfold Nah
  rw [hp,sw c,sw i,if_neg (show ¬ c=j by omega),if_neg (show ¬ c=i by omega),if_neg (show ¬ i=j by omega),if_pos rfl]
  have:=h.a c hc0 hcm (by omega)
  unfold Nah at this;rw [hpc] at this;exact this
theorem A0W.top {l:List QE} {m:Nat} (h:A0W l m):∀ k,k<m→Nah l k 0:=by
 intro k
 induction k using Nat.strongRecOn with
 | _ k ih =>
  intro hk
  rcases Nat.eq_zero_or_pos k with e | e
  ·subst e;exact U8 _
  ·have hp:M0 k<k:=by unfold M0;omega
   exact Q0 (h k e hk) (ih (M0 k) hp (by omega))
theorem A0W.up {l:List QE} {m:Nat} (h:A0W l m) (x:QE) (hm:m=l.length):Rise (l++[x]) (m+1) m:=by
 have old:∀ k,k<m→at_ (l++[x]) k=at_ l k:=fun k hk=>by
  unfold at_;rw [List.getD_eq_getElem?_getD,List.getD_eq_getElem?_getD,List.getElem?_append_left (by omega)]
 refine ⟨fun c h0 hc hne=>?_,fun c h0 hc hpc hm0=>?_⟩
 ·have hp:M0 c<c:=by unfold M0;omega
  unfold Nah
  rw [old c (by omega),old (M0 c) (by omega)]
  exact h c h0 (by omega)
 ·unfold M0 at hpc;omega
theorem A0W.down {l:List QE} {m:Nat} (h:A0W l (m+1)) (hm:m<l.length):Sink (swp l 0 m) m 0:=by
 have sw:=A2x (l:=l) (i:=0) (j:=m) (by omega) (by omega)
 refine ⟨fun c h0 hc hne=>?_,fun c h0 hc hpc h00=>by omega⟩
 have hp:M0 c<c:=by unfold M0;omega
 unfold Nah
 rw [sw c,sw (M0 c),if_neg (by omega),if_neg (by omega),if_neg (by omega),if_neg hne]
 exact h c h0 (by omega)
end Go.Ab
namespace Go.Proofs.YtbajhapmlfbelaaGreat
open Go Go.Ab
attribute [local irreducible] upd del
def A2R (x:QE):AV:=.agg [eI x.1,eI x.2]
def V4 (st:St) (b:Nat) (l:List QE):Prop:=∃ f,st b=some ⟨293,2,l.length,f⟩∧∀ k,k<l.length→f k=A2R (at_ l k)
theorem A5i (b:Nat) (l:List QE) (n i j:Nat) (st:St) (h:V4 st b l) (hn:n≤l.length) (hi:i<n) (hj:j<n) :
  S P 370 [.own 2 b 0 n,eI i,eI j] st fun v st'=>v=.bool (D6 (at_ l i) (at_ l j))∧st'=st:=by
 obtain ⟨f,hst,hf⟩:=h
 refine E3 [] Tryz.func370 ?_
 refine ⟨[],[],[0,1,2,3,4,5,6,7,8,9,10,11,12,13,14,15,16,17,18,19,20,21,22,23,24,25,26,27,28,29,30,31,32,33,34,35,36,37],by kernel_rfl,?_⟩;conv=>whnf
 have fi:f (0+(i:Int).toNat)=A2R (at_ l i):=by rw [Nat.zero_add];exact hf i (by omega)
 have fj:f (0+(j:Int).toNat)=A2R (at_ l j):=by rw [Nat.zero_add];exact hf j (by omega)
 have li:0+(i:Int).toNat<l.length:=by omega
 have lj:0+(j:Int).toNat<l.length:=by omega
 refine G9 ?_
 refine ldV hst rfl li fi ?_;conv=>whnf
 refine G9 ?_
 refine ldV hst rfl lj fj ?_;conv=>whnf
 unfold D6
 refine B5 (fun h1=>?_) (fun h1=>?_)<;>rw [h1]
 ·conv=>whnf
  exact ⟨rfl,rfl⟩
 conv=>whnf
 refine G9 ?_
 refine ldV hst rfl li fi ?_;conv=>whnf
 refine G9 ?_
 refine ldV hst rfl lj fj ?_;conv=>whnf
 refine B5 (fun h2=>?_) (fun h2=>?_)<;>rw [h2]
 ·conv=>whnf
  refine G9 ?_
  refine ldV hst rfl li fi ?_;conv=>whnf
  refine G9 ?_
  refine ldV hst rfl lj fj ?_;conv=>whnf
  exact ⟨rfl,rfl⟩
 ·conv=>whnf
  exact ⟨rfl,rfl⟩
theorem len_S (b n:Nat) (st:St):S P 369 [.own 2 b 0 n] st fun v st'=>v=eI n∧st'=st:=by
 refine E3 [] Tryz.func369 ?_
 exact ⟨rfl,rfl⟩
theorem B0k (b:Nat) (l:List QE) (n i j:Nat) (st:St) (h:V4 st b l) (hn:n≤l.length) (hi:i<n) (hj:j<n) :
  S P 371 [.own 2 b 0 n,eI i,eI j] st fun v st'=>v=.tuple []∧V4 st' b (swp l i j)∧∀ c,c≠b→st' c=st c:=by
 obtain ⟨f,hst,hf⟩:=h
 refine E3 [] Tryz.func371 ?_
 have fi:f (0+(i:Int).toNat)=A2R (at_ l i):=by rw [Nat.zero_add];exact hf i (by omega)
 have fj:f (0+(j:Int).toNat)=A2R (at_ l j):=by rw [Nat.zero_add];exact hf j (by omega)
 have li:0+(i:Int).toNat<l.length:=by omega
 have lj:0+(j:Int).toNat<l.length:=by omega
 have ei:0+(i:Int).toNat=i:=by omega
 have ej:0+(j:Int).toNat=j:=by omega
 have hfj:L4 f (0+(i:Int).toNat) (H7 (A2R (at_ l i)) 0 (cellsOf (A2R (at_ l j)))) (0+(j:Int).toNat)=A2R (at_ l j):=by
  by_cases h:j=i
  ·subst h;rw [B3];rfl
  ·rw [J9 (by omega)];exact fj
 refine ⟨[13,15],[],[0,1,2,3,4,5,6,7,8,9,10,11,12,13,14,15],by kernel_rfl,?_⟩;conv=>whnf
 refine G9 ?_
 refine ldV hst rfl lj fj ?_;conv=>whnf
 refine G9 ?_
 refine ldV hst rfl li fi ?_;conv=>whnf
 refine G9 ?_
 refine stV hst rfl li fi (by rfl) ?_;conv=>whnf
 refine G9 ?_
 refine stV (v:=A2R (at_ l j)) (A0 ..) rfl lj hfj (by rfl) ?_;conv=>whnf
 refine ⟨rfl,⟨_,by rw [A0,A8a],fun k hk=>?_⟩,fun c hc=>by rw [A3 hc,A3 hc]⟩
 rw [A8a] at hk
 rw [A2x (by omega) (by omega)]
 by_cases h1:k=j
 ·subst h1
  rw [if_pos rfl,ej,B3];rfl
 ·rw [if_neg h1,J9 (by omega)]
  by_cases h2:k=i
  ·subst h2
   rw [if_pos rfl,ei,B3];rfl
  ·rw [if_neg h2,J9 (by omega)];exact hf k hk
def A0j (st:St) (q:Nat) (sv:AV):Prop:=∃ f,st q=some ⟨289,1,1,f⟩∧f 0=.agg [sv]
abbrev hI (q:Nat):AV:=.iface 291 (.optr 1 q 0 0)
theorem A0j.frame {st st':St} {q b:Nat} {sv:AV} (h:A0j st q sv) (hqb:q≠b) (hf:∀ c,c≠b→st' c=st c):A0j st' q sv:=by
 obtain ⟨f,h1,h2⟩:=h
 exact ⟨f,by rw [hf q hqb];exact h1,h2⟩
theorem C1P (j:Nat) (hj:j<4611686018427387904):IntKind.i64.wrap ((IntKind.i64.wrap ((j:Int) - 1)).tdiv 2)=((M0 j:Nat):Int):=by
 rw [B0 (x:=(j:Int) - 1) (by omega) (by omega)]
 unfold M0
 rcases Nat.eq_zero_or_pos j with e | e
 ·subst e;rfl
 ·rw [Int.tdiv_eq_ediv_of_nonneg (by omega),B0 (by omega) (by omega)];omega
theorem B8f (q b:Nat) (l:List QE) (j:Nat) (st:St) (hq:A0j st q (.own 2 b 0 l.length)) (hqb:q≠b) (he:V4 st b l) (hr:Ab.Rise l l.length j) (hj:j<l.length) (hl:l.length<4611686018427387904) :
  S P 283 [hI q,eI j] st fun v st'=>v=.tuple []∧∃ l',l'.Perm l∧A0W l' l.length∧V4 st' b l'∧∀ c,c≠b→st' c=st c:=by
 refine E3 [] Tryz.func283 ?_
 refine ⟨[0,1],fun m vs st'=>∃ (j:Nat) (l':List QE),l'.Perm l∧V4 st' b l'∧(∀ c,c≠b→st' c=st c)∧Ab.Rise l' l.length j∧j<l.length∧m=j∧vs=[hI q,eI j],?_,?_⟩
 ·conv=>whnf
  exact ⟨_,j,l,List.Perm.refl _,he,fun c _=>rfl,hr,hj,rfl,rfl⟩
 ·clear hr hj he
  rintro j vs st' ⟨_,l',hp,he,hfr,hr,hj,rfl,rfl⟩
  have hlen:l'.length=l.length:=hp.length_eq
  obtain ⟨f,hqs,hq0⟩:=hq.frame hqb hfr
  have hpj:M0 j≤j:=by unfold M0;omega
  conv=>whnf
  rw [C1P j (by omega)]
  refine B5 (fun h1=>?_) (fun h1=>?_)<;>rw [h1]
  ·have:j=0:=by
    have:=of_decide_eq_true h1
    unfold M0 at this;omega
   conv=>whnf
   exact ⟨rfl,l',hp,hr.done (.inl this),he,hfr⟩
  ·have hj0:0<j:=by
    rcases Nat.eq_zero_or_pos j with e | e
    ·subst e;cases h1
    ·exact e
   conv=>whnf
   refine J7 hqs hq0 ?_
   refine H9 (A5i b l' l.length j (M0 j) _ he (by omega) (by omega) (by omega)) ?_
   refine B5 (fun h2=>?_) (fun h2=>?_)<;>rw [h2]
   ·conv=>whnf
    exact ⟨rfl,l',hp,hr.done (.inr (by have:=h2;simp only [Bool.not_eq_true'] at this;exact this)),he,hfr⟩
   ·have h2':D6 (at_ l' j) (at_ l' (M0 j))=true:=by have:=h2;simp only [Bool.not_eq_false'] at this;exact this
    have hlt:M0 j<j:=by unfold M0;omega
    conv=>whnf
    refine J7 hqs hq0 ?_
    refine call (B0k b l' l.length (M0 j) j _ he (by omega) (by omega) (by omega)) (fun v st'' hv=>?_)
    obtain ⟨rfl,he',hfr'⟩:=hv
    conv=>whnf
    refine H4 ?_
    exact ⟨M0 j,hlt,M0 j,swp l' (M0 j) j,(A5P (by omega) (by omega)).trans hp,he',fun c hc=>(hfr' c hc).trans (hfr c hc),hr.step (by omega) hj hj0 h2',by omega,rfl,rfl⟩
theorem j1W (i:Nat) (hi:i<2305843009213693952):IntKind.i64.wrap (IntKind.i64.wrap (2 * (i:Int))+1)=((2 * i+1:Nat):Int):=by
 rw [B0 (x:=2 * (i:Int)) (by omega) (by omega),B0 (by omega) (by omega)];omega
theorem B5n (q b:Nat) (l:List QE) (n m:Nat) (st:St) (hq:A0j st q (.own 2 b 0 n)) (hqb:q≠b) (he:V4 st b l) (hs:Ab.Sink l m 0) (hmn:m≤n) (hn:n≤l.length) (hl:l.length<2305843009213693952) :
  S P 284 [hI q,eI 0,eI m] st fun v st'=>(∃ x,v=.bool x)∧∃ l',l'.Perm l∧(∀ k,m≤k→at_ l' k=at_ l k)∧A0W l' m∧V4 st' b l'∧∀ c,c≠b→st' c=st c:=by
 refine E3 [] Tryz.func284 ?_
 refine ⟨[0,1,2,7],fun t vs st'=>∃ (i:Nat) (l':List QE),l'.Perm l∧(∀ k,m≤k→at_ l' k=at_ l k)∧V4 st' b l'∧(∀ c,c≠b→st' c=st c)∧Ab.Sink l' m i∧i≤l.length∧t=l.length - i∧vs=[hI q,eI 0,eI m,eI i],?_,?_⟩
 ·conv=>whnf
  exact ⟨_,0,l,List.Perm.refl _,fun _ _=>rfl,he,fun c _=>rfl,hs,Nat.zero_le _,rfl,rfl⟩
 ·clear hs he
  rintro t vs st' ⟨i,l',hp,hk,he,hfr,hs,hi,rfl,rfl⟩
  have hlen:l'.length=l.length:=hp.length_eq
  obtain ⟨f,hqs,hq0⟩:=hq.frame hqb hfr
  have kid:∀ c,0<c→(M0 c=i↔c=2 * i+1∨c=2 * i+2):=fun c hc=>by unfold M0;omega
  conv=>whnf
  rw [j1W i (by omega)]
  refine B5 (fun h1=>?_) (fun h1=>?_)<;>rw [h1]<;>simp only [decide_eq_true_eq,decide_eq_false_iff_not] at h1
  ·conv=>whnf
   exact ⟨⟨_,rfl⟩,l',hp,hk,hs.done (fun c hc0 hcm hpc=>by have:=(kid c hc0).1 hpc;omega),he,hfr⟩
  have him:2 * i+1<m:=by omega
  conv=>whnf
  have w2:IntKind.i64.wrap (((2 * i+1:Nat):Int)+1)=((2 * i+2:Nat):Int):=by rw [B0 (by omega) (by omega)];omega
  rw [w2]
  -- behind the choice of a child
  have tail:∀ (j:Nat),0<j→j<m→M0 j=i→(∀ c,0<c→c<m→M0 c=i→Nah l' c j)→∀ (K:KK),(∀ v st'' l'',v=.tuple []→l''.Perm l→(∀ k,m≤k→at_ l'' k=at_ l k)→V4 st'' b l''→(∀ c,c≠b→st'' c=st c)→D6 (at_ l' j) (at_ l' i)=true→Ab.Sink l'' m j→K v st'')→D6 (at_ l' j) (at_ l' i)=true→Q7 P 371 [.own 2 b 0 n,eI i,eI j] st' K:=by
   intro j hj0 hjm hpj hbest K hK hpr
   have hij:i<j:=by rw [←hpj];unfold M0;omega
   refine call (B0k b l' n i j _ he (by omega) (by omega) (by omega)) (fun v st'' hv=>?_)
   obtain ⟨rfl,he',hfr'⟩:=hv
   refine hK _ _ (swp l' i j) rfl ((A5P (by omega) (by omega)).trans hp) (fun k hkm=>?_) he' (fun c hc=>(hfr' c hc).trans (hfr c hc)) hpr (hs.step (by omega) hjm hj0 hpj hpr hbest)
   rw [A2x (by omega) (by omega),if_neg (by omega),if_neg (by omega)];exact hk k hkm
  refine B5 (fun h3=>?_) (fun h3=>?_)<;>rw [h3]<;>simp only [decide_eq_true_eq,decide_eq_false_iff_not] at h3
  ·conv=>whnf
   refine J7 hqs hq0 ?_
   refine H9 (A5i b l' n (2 * i+2) (2 * i+1) _ he (by omega) (by omega) (by omega)) ?_
   refine B5 (fun h4=>?_) (fun h4=>?_)<;>rw [h4]
   ·have hbest:∀ c,0<c→c<m→M0 c=i→Nah l' c (2 * i+2):=fun c hc0 hcm hpc=>by
     rcases (kid c hc0).1 hpc with e | e
     ·subst e;exact Q1 h4
     ·subst e;exact U8 _
    conv=>whnf
    refine J7 hqs hq0 ?_
    refine H9 (A5i b l' n (2 * i+2) i _ he (by omega) (by omega) (by omega)) ?_
    refine B5 (fun h5=>?_) (fun h5=>?_)<;>rw [h5]
    ·conv=>whnf
     exact ⟨⟨_,rfl⟩,l',hp,hk,hs.done (fun c hc0 hcm hpc=>Q0 (hbest c hc0 hcm hpc) (show Nah l' (2 * i+2) i by have:=h5;simp only [Bool.not_eq_true'] at this;exact this)),he,hfr⟩
    ·conv=>whnf
     refine J7 hqs hq0 ?_
     refine tail (2 * i+2) (by omega) (by omega) ((kid _ (by omega)).2 (.inr rfl)) hbest _ (fun v st'' l'' hv hp' hk' he' hfr' hpr hs'=>?_) (by have:=h5;simp only [Bool.not_eq_false'] at this;exact this)
     subst hv;conv=>whnf
     refine H4 ?_
     exact ⟨l.length - (2 * i+2),by omega,2 * i+2,l'',hp',hk',he',hfr',hs',by omega,rfl,rfl⟩
   ·have hbest:∀ c,0<c→c<m→M0 c=i→Nah l' c (2 * i+1):=fun c hc0 hcm hpc=>by
     rcases (kid c hc0).1 hpc with e | e
     ·subst e;exact U8 _
     ·subst e;exact h4
    conv=>whnf
    refine J7 hqs hq0 ?_
    refine H9 (A5i b l' n (2 * i+1) i _ he (by omega) (by omega) (by omega)) ?_
    refine B5 (fun h5=>?_) (fun h5=>?_)<;>rw [h5]
    ·conv=>whnf
     exact ⟨⟨_,rfl⟩,l',hp,hk,hs.done (fun c hc0 hcm hpc=>Q0 (hbest c hc0 hcm hpc) (show Nah l' (2 * i+1) i by have:=h5;simp only [Bool.not_eq_true'] at this;exact this)),he,hfr⟩
    ·conv=>whnf
     refine J7 hqs hq0 ?_
     refine tail (2 * i+1) (by omega) (by omega) ((kid _ (by omega)).2 (.inl rfl)) hbest _ (fun v st'' l'' hv hp' hk' he' hfr' hpr hs'=>?_) (by have:=h5;simp only [Bool.not_eq_false'] at this;exact this)
     subst hv;conv=>whnf
     refine H4 ?_
     exact ⟨l.length - (2 * i+1),by omega,2 * i+1,l'',hp',hk',he',hfr',hs',by omega,rfl,rfl⟩
  ·have hbest:∀ c,0<c→c<m→M0 c=i→Nah l' c (2 * i+1):=fun c hc0 hcm hpc=>by
    rcases (kid c hc0).1 hpc with e | e
    ·subst e;exact U8 _
    ·omega
   conv=>whnf
   refine J7 hqs hq0 ?_
   refine H9 (A5i b l' n (2 * i+1) i _ he (by omega) (by omega) (by omega)) ?_
   refine B5 (fun h5=>?_) (fun h5=>?_)<;>rw [h5]
   ·conv=>whnf
    exact ⟨⟨_,rfl⟩,l',hp,hk,hs.done (fun c hc0 hcm hpc=>Q0 (hbest c hc0 hcm hpc) (show Nah l' (2 * i+1) i by have:=h5;simp only [Bool.not_eq_true'] at this;exact this)),he,hfr⟩
   ·conv=>whnf
    refine J7 hqs hq0 ?_
    refine tail (2 * i+1) (by omega) (by omega) ((kid _ (by omega)).2 (.inl rfl)) hbest _ (fun v st'' l'' hv hp' hk' he' hfr' hpr hs'=>?_) (by have:=h5;simp only [Bool.not_eq_false'] at this;exact this)
    subst hv;conv=>whnf
    refine H4 ?_
    exact ⟨l.length - (2 * i+1),by omega,2 * i+1,l'',hp',hk',he',hfr',hs',by omega,rfl,rfl⟩
theorem V4.frame {st st':St} {b c:Nat} {l:List QE} (h:V4 st b l) (hc:c≠b) (hf:∀ a,a≠c→st' a=st a):V4 st' b l:=by
 obtain ⟨f,h1,h2⟩:=h
 exact ⟨f,by rw [hf b (fun e=>hc e.symm)];exact h1,h2⟩
theorem B6S (q b:Nat) (l:List QE) (n:Nat) (st:St) (hq:A0j st q (.own 2 b 0 (n+1))) (hqb:q≠b) (he:V4 st b l) (hn:n<l.length) (hl:l.length<2305843009213693952) :
  S P 372 [.optr 1 q 0 0] st fun v st'=>v=.iface 293 (A2R (at_ l n))∧A0j st' q (.own 2 b 0 n)∧∀ c,c≠q→st' c=st c:=by
 obtain ⟨fq,hqs,hq0⟩:=hq
 obtain ⟨f,hst,hf⟩:=he
 refine E3 [4] Tryz.func372 ?_
 refine J7 hqs hq0 ?_
 have w:IntKind.i64.wrap (((n+1:Nat):Int) - 1)=(n:Int):=by rw [B0 (by omega) (by omega)];omega
 rw [w]
 refine J7 hqs hq0 ?_
 refine G9 ?_
 refine ldV hst rfl (by omega) (v:=A2R (at_ l n)) (by rw [show 0+(n:Int).toNat=n by omega];exact hf n hn) ?_;conv=>whnf
 refine J7 hqs hq0 ?_
 refine ⟨rfl,⟨by omega,by omega,by omega⟩,.inl rfl,?_⟩;conv=>whnf
 refine stW hqs hq0 ?_
 refine ⟨rfl,⟨_,A0 ..,?_⟩,fun c hc=>by rw [A3 hc]⟩
 rw [B3]
 show AV.agg [AV.own 2 b _ _]=_
 congr 3<;>simp
theorem B5f (q:Nat) (sv:AV) (l:List QE) (x:QE) (st st0:St) (hq:A0j st q sv) (h0:st0 q=none) (hsup:E2 st0 st) (hl:l.length<2305843009213)
  (hs:(l=[]∧sv=.emp)∨∃ b,q≠b∧st0 b=none∧sv=.own 2 b 0 l.length∧V4 st b l) :
  S P 373 [.optr 1 q 0 0,.iface 293 (A2R x)] st fun v st'=>v=.tuple []∧∃ b,q≠b∧st0 b=none∧A0j st' q (.own 2 b 0 (l.length+1))∧V4 st' b (l++[x])∧E2 st0 st':=by
 obtain ⟨fq,hqs,hq0⟩:=hq
 refine E3 [] Tryz.func373 ?_
 intro c hc
 have hcq:q≠c:=fun e=>by subst e;rw [hqs] at hc;cases hc
 conv=>whnf
 refine stW (A0 ..) rfl ?_
 refine ⟨[6,8],[],[0,1,2,3,4,5,6,7,8],by kernel_rfl,?_⟩;conv=>whnf
 refine J7 (by rw [A3 hcq,A3 hcq];exact hqs) hq0 ?_
 have hc0:st0 c=none:=hsup.none hc
 rcases hs with ⟨rfl,rfl⟩ | ⟨b,hqb,hb0,rfl,f,hst,hf⟩
 ·conv=>whnf
  refine J7 (A0 ..) rfl ?_
  refine ⟨_,⟨rfl,rfl⟩,?_⟩;conv=>whnf
  refine apE rfl rfl rfl rfl (A3M ..) (by show 1 * 16≤_;omega) (fun h=>absurd h (by omega)) (fun _ b hb=>?_)
  have hbq:b≠q:=fun e=>by subst e;rw [A3 hcq,A3 hcq,hqs] at hb;cases hb
  have hbc:b≠c:=fun e=>by subst e;rw [A0] at hb;cases hb
  have hb':st b=none:=by rw [A3 hbc,A3 hbc] at hb;exact hb
  conv=>whnf
  refine stW (by rw [A3 hbq.symm,A3 hcq,A3 hcq];exact hqs) hq0 ?_
  refine ⟨rfl,b,hbq.symm,hsup.none hb',⟨_,A0 ..,by rw [B3];rfl⟩,⟨_,by rw [A3 hbq,A0];rfl,fun k hk=>?_⟩,?_⟩
  ·have:k=0:=by simpa using hk
   subst this;rfl
  ·exact (((hsup.over hc0).over hc0).over (hsup.none hb')).over h0
 ·have hbc:b≠c:=fun e=>by subst e;rw [hst] at hc;cases hc
  conv=>whnf
  refine J7 (A0 ..) rfl ?_
  refine ⟨_,⟨rfl,rfl⟩,?_⟩;conv=>whnf
  refine apO (q:=B7p) (n:=l.length) rfl rfl rfl rfl (A3M ..) (by rw [A3 hbc,A3 hbc];exact hst) rfl rfl rfl (by show (l.length+1) * 16≤_;omega) (fun h=>absurd h (by omega)) (fun _ b' hb'=>?_)
  have hb'q:b'≠q:=fun e=>by
   subst e
   rcases hb' with e | e
   ·exact hqb e
   ·rw [A3 hcq,A3 hcq,hqs] at e;cases e
  have hb'0:st0 b'=none:=by
   rcases hb' with rfl | e
   ·exact hb0
   ·by_cases hbc':b'=c
    ·subst hbc';exact hc0
    ·rw [A3 hbc',A3 hbc'] at e;exact hsup.none e
  conv=>whnf
  refine stW (by rw [A3 hb'q.symm];unfold del;rw [if_neg hqb,A3 hcq,A3 hcq];exact hqs) hq0 ?_
  refine ⟨rfl,b',hb'q.symm,hb'0,⟨_,A0 ..,by rw [B3];rfl⟩,⟨_,by rw [A3 hb'q,A0,List.length_append];rfl,fun k hk=>?_⟩,?_⟩
  ·rw [List.length_append] at hk
   simp only [List.length_cons,List.length_nil] at hk
   unfold at_
   by_cases hkl:k<l.length
   ·simp only [hkl,if_true]
    rw [hf k hkl,List.getD_eq_getElem?_getD,List.getElem?_append_left hkl,←List.getD_eq_getElem?_getD]
   ·have:k=l.length:=by omega
    subst this
    simp only [Nat.lt_irrefl,if_false,Nat.sub_self]
    rw [show (l++[x]).getD l.length default=x by simp [List.getD_eq_getElem?_getD]]
    rfl
  ·exact ((((hsup.over hc0).over hc0).del hb0).over hb'0).over h0
theorem B5o (q:Nat) (sv:AV) (l:List QE) (x:QE) (st st0:St) (hq:A0j st q sv) (h0:st0 q=none) (hsup:E2 st0 st) (hl:l.length<2305843009213) (hh:A0W l l.length)
  (hs:(l=[]∧sv=.emp)∨∃ b,q≠b∧st0 b=none∧sv=.own 2 b 0 l.length∧V4 st b l) :
  S P 236 [hI q,.iface 293 (A2R x)] st fun v st'=>v=.tuple []∧∃ b l',q≠b∧st0 b=none∧l'.Perm (l++[x])∧A0W l' l'.length∧A0j st' q (.own 2 b 0 l'.length)∧V4 st' b l'∧E2 st0 st':=by
 refine E3 [] Tryz.func236 ?_
 refine call (B5f q sv l x st st0 hq h0 hsup hl hs) (fun v st' hv=>?_)
 obtain ⟨rfl,b,hqb,hb0,⟨fq,hqs,hq0⟩,he,hsup'⟩:=hv
 conv=>whnf
 refine J7 hqs hq0 ?_
 refine H9 (len_S b (l.length+1) _) ?_
 have w:IntKind.i64.wrap (((l.length+1:Nat):Int) - 1)=(l.length:Int):=by rw [B0 (by omega) (by omega)];omega
 rw [w]
 have e1:(l++[x]).length=l.length+1:=by simp
 have hr:Ab.Rise (l++[x]) (l++[x]).length l.length:=by rw [e1];exact hh.up x rfl
 refine call (B8f q b (l++[x]) l.length _ (by rw [e1];exact ⟨fq,hqs,hq0⟩) hqb he hr (by omega) (by omega)) (fun v st'' hv=>?_)
 obtain ⟨rfl,l',hp,hh',he',hfr⟩:=hv
 conv=>whnf
 have el:l'.length=(l++[x]).length:=hp.length_eq
 refine ⟨rfl,b,l',hqb,hb0,hp,by rw [el];exact hh',?_,he',fun c y hc=>?_⟩
 ·rw [el,e1];exact A0j.frame ⟨fq,hqs,hq0⟩ hqb hfr
 ·rw [hfr c (fun e=>by subst e;rw [hb0] at hc;cases hc)];exact hsup' c y hc
theorem B2y {l l':List QE} {m:Nat} (hm:m<l.length) (hp:l'.Perm l) (hk:∀ k,m≤k→at_ l' k=at_ (swp l 0 m) k):(at_ l 0::l'.take m).Perm (l.take (m+1)):=by
 have hlen:l'.length=l.length:=hp.length_eq
 have e1:l'.drop m=at_ l 0::l.drop (m+1):=by
  refine List.ext_getElem? fun i=>?_
  rw [List.getElem?_drop]
  have hi:=hk (m+i) (by omega)
  rw [A2x (by omega) hm] at hi
  rcases Nat.lt_or_ge (m+i) l.length with h | h
  ·have a1:l'[m+i]?=some (at_ l' (m+i)):=by
    unfold at_;rw [List.getD_eq_getElem?_getD,List.getElem?_eq_getElem (by omega)];rfl
   rw [a1,hi]
   cases i with
   | zero=>simp
   | succ i =>
    rw [if_neg (by omega),if_neg (by omega),List.getElem?_cons_succ,List.getElem?_drop]
    unfold at_
    rw [List.getD_eq_getElem?_getD,show m+(i+1)=m+1+i by omega,List.getElem?_eq_getElem (by omega)];rfl
  ·rw [List.getElem?_eq_none (by omega)]
   cases i with
   | zero=>omega
   | succ i=>rw [List.getElem?_cons_succ,List.getElem?_drop,List.getElem?_eq_none (by omega)]
 have h1:(l'.take m++(at_ l 0::l.drop (m+1))).Perm (l.take (m+1)++l.drop (m+1)):=by
  rw [←e1,List.take_append_drop,List.take_append_drop];exact hp
 have h2:((at_ l 0::l'.take m)++l.drop (m+1)).Perm (l.take (m+1)++l.drop (m+1)):=by
  refine List.Perm.trans ?_ h1
  exact List.perm_middle.symm
 exact (List.perm_append_right_iff _).1 h2
theorem B6V (q b:Nat) (l:List QE) (n:Nat) (st:St) (hq:A0j st q (.own 2 b 0 (n+1))) (hqb:q≠b) (he:V4 st b l) (hh:A0W l (n+1)) (hn:n<l.length) (hl:l.length<2305843009213693952) :
  S P 237 [hI q] st fun v st'=>v=.iface 293 (A2R (at_ l 0))∧∃ l',l'.length=l.length∧(at_ l 0::l'.take n).Perm (l.take (n+1))∧A0W l' n∧A0j st' q (.own 2 b 0 n)∧V4 st' b l'∧∀ c,c≠q→c≠b→st' c=st c:=by
 obtain ⟨fq,hqs,hq0⟩:=hq
 refine E3 [] Tryz.func237 ?_
 refine J7 hqs hq0 ?_
 refine H9 (len_S b (n+1) _) ?_
 have w:IntKind.i64.wrap (((n+1:Nat):Int) - 1)=(n:Int):=by rw [B0 (by omega) (by omega)];omega
 rw [w]
 refine J7 hqs hq0 ?_
 refine call (B0k b l (n+1) 0 n _ he (by omega) (by omega) (by omega)) (fun v st1 hv=>?_)
 obtain ⟨rfl,he1,hfr1⟩:=hv
 have hq1:A0j st1 q (.own 2 b 0 (n+1)):=A0j.frame ⟨fq,hqs,hq0⟩ hqb hfr1
 have hd:Ab.Sink (swp l 0 n) n 0:=hh.down hn
 have hsl:(swp l 0 n).length=l.length:=A8a l 0 n
 conv=>whnf
 refine call (B5n q b (swp l 0 n) (n+1) n _ hq1 hqb he1 hd (by omega) (by omega) (by omega)) (fun v st2 hv=>?_)
 obtain ⟨⟨y,rfl⟩,l',hp,hk,hh',he2,hfr2⟩:=hv
 have hl':l'.length=l.length:=hp.length_eq.trans hsl
 have hq2:A0j st2 q (.own 2 b 0 (n+1)):=hq1.frame hqb hfr2
 have htop:at_ l' n=at_ l 0:=by rw [hk n (Nat.le_refl _),A2x (by omega) hn,if_pos rfl]
 conv=>whnf
 refine call (B6S q b l' n _ hq2 hqb he2 (by omega) (by omega)) (fun v st3 hv=>?_)
 obtain ⟨rfl,hq3,hfr3⟩:=hv
 rw [htop];conv=>whnf
 refine ⟨rfl,l',hl',B2y hn (hp.trans (A5P (by omega) hn)) hk,hh',hq3,he2.frame hqb hfr3,fun c h1 h2=>by rw [hfr3 c h1,hfr2 c h2,hfr1 c h2]⟩
structure T5 (st0:St) (q:Nat) (fresh:Bool) (es:List QE) (st:St):Prop where
 new:st0 q=none
 sup:E2 st0 st
 has:∃ sv,A0j st q sv∧((es=[]∧sv=.emp)∨∃ b l n,q≠b∧st0 b=none∧sv=.own 2 b 0 n∧n≤l.length∧l.length<2305843009213∧A0W l n∧V4 st b l∧(l.take n).Perm es∧(fresh=true→n=l.length))
theorem T5.perm {st0 st:St} {q:Nat} {f:Bool} {es es':List QE} (h:T5 st0 q f es st) (hp:es.Perm es'):T5 st0 q f es' st:=by
 obtain ⟨h1,h2,sv,hq,h3⟩:=h
 refine ⟨h1,h2,sv,hq,?_⟩
 rcases h3 with ⟨rfl,hs⟩ | ⟨b,l,n,a1,a2,a3,a4,a5,a6,a7,a8,a9⟩
 ·exact .inl ⟨List.Perm.eq_nil hp.symm,hs⟩
 ·exact .inr ⟨b,l,n,a1,a2,a3,a4,a5,a6,a7,a8.trans hp,a9⟩
theorem A7G (st:St):S P 146 [] st fun v st'=>∃ q,v=.optr 1 q 0 0∧T5 st q true [] st':=by
 refine E3 [] Tryz.func146 ?_
 intro q hq;conv=>whnf
 exact ⟨q,rfl,hq,(E2.refl st).upd hq,.emp,⟨_,A0 ..,rfl⟩,.inl ⟨rfl,rfl⟩⟩
theorem A4H (st0:St) (q:Nat) (es:List QE) (r k:Int) (st:St) (h:T5 st0 q true es st) (hl:es.length<2305843009212):S P 147 [.optr 1 q 0 0,eI r,eI k] st fun v st'=>v=.tuple []∧T5 st0 q true (es++[(r,k)]) st':=by
 obtain ⟨h1,h2,sv,hq,h3⟩:=h
 refine E3 [] Tryz.func147 ?_
 have hex:∃ l:List QE,l.Perm es∧A0W l l.length∧((l=[]∧sv=.emp)∨∃ b,q≠b∧st0 b=none∧sv=.own 2 b 0 l.length∧V4 st b l):=by
  rcases h3 with ⟨rfl,hs⟩ | ⟨b,l,n,a1,a2,a3,a4,a5,a6,a7,a8,a9⟩
  ·exact ⟨[],List.Perm.refl _,fun c h0 hc=>absurd hc (by simp),.inl ⟨rfl,hs⟩⟩
  ·have e:=a9 rfl
   subst e
   rw [List.take_length] at a8
   exact ⟨l,a8,a6,.inr ⟨b,a1,a2,a3,a7⟩⟩
 obtain ⟨l,hp,hh,hs⟩:=hex
 have hll:l.length=es.length:=hp.length_eq
 refine call (B5o q sv l (r,k) st st0 hq h1 h2 (by omega) hh hs) (fun v st' hv=>?_)
 obtain ⟨rfl,b,l',hqb,hb0,hp',hh',hq',he',hsup'⟩:=hv
 have hl':l'.length=l.length+1:=by rw [hp'.length_eq];simp
 conv=>whnf
 exact ⟨rfl,h1,hsup',_,hq',.inr ⟨b,l',l'.length,hqb,hb0,rfl,Nat.le_refl _,by omega,hh',he',by rw [List.take_length];exact hp'.trans (hp.append_right _),fun _=>rfl⟩⟩
theorem A5w (st0:St) (q:Nat) (f:Bool) (es:List QE) (st:St) (h:T5 st0 q f es st):S P 148 [.optr 1 q 0 0] st fun v st'=>v=eI es.length∧st'=st:=by
 obtain ⟨h1,h2,sv,⟨fq,hqs,hq0⟩,h3⟩:=h
 refine E3 [] Tryz.func148 ?_
 rcases h3 with ⟨rfl,rfl⟩ | ⟨b,l,n,a1,a2,rfl,a4,a5,a6,a7,a8,a9⟩
 ·refine J7 hqs hq0 ?_
  exact ⟨rfl,rfl⟩
 ·refine J7 hqs hq0 ?_
  refine ⟨?_,rfl⟩
  have:es.length=n:=by rw [←a8.length_eq,List.length_take];omega
  rw [this];rfl
theorem B5G (st0:St) (q:Nat) (f:Bool) (st:St) (h:T5 st0 q f [] st):S P 149 [.optr 1 q 0 0] st fun v st'=>v=.tuple [eI 0,eI 0,.bool false]∧st'=st:=by
 obtain ⟨h1,h2,sv,⟨fq,hqs,hq0⟩,h3⟩:=h
 refine E3 [] Tryz.func149 ?_
 rcases h3 with ⟨_,rfl⟩ | ⟨b,l,n,a1,a2,rfl,a4,a5,a6,a7,a8,a9⟩
 ·refine J7 hqs hq0 ?_
  exact ⟨rfl,rfl⟩
 ·have e:n=0:=by
   have:=a8.length_eq
   rw [List.length_take,List.length_nil] at this;omega
  subst e
  refine J7 hqs hq0 ?_
  exact ⟨rfl,rfl⟩
theorem A5x (st0:St) (q:Nat) (f:Bool) (x:QE) (es:List QE) (st:St) (h:T5 st0 q f (x::es) st) (htop:∀ y∈es,D6 y x=false):S P 149 [.optr 1 q 0 0] st fun v st'=>v=.tuple [eI x.1,eI x.2,.bool true]∧T5 st0 q false es st':=by
 obtain ⟨h1,h2,sv,hq,h3⟩:=h
 rcases h3 with ⟨h,_⟩ | ⟨b,l,n,a1,a2,rfl,a4,a5,a6,a7,a8,a9⟩
 ·cases h
 have hn:n=es.length+1:=by
  have:=a8.length_eq
  rw [List.length_take,List.length_cons] at this;omega
 subst hn
 have hx:at_ l 0=x:=by
  have m0:at_ l 0∈x::es:=by
   refine a8.subset ?_
   have:(l.take (es.length+1)).getD 0 default=at_ l 0:=by
    unfold at_;rw [List.getD_eq_getElem?_getD,List.getD_eq_getElem?_getD,List.getElem?_take_of_lt (by omega)]
   rw [←this];exact A7 (by rw [List.length_take];omega)
  have hmem:x∈l.take (es.length+1):=a8.symm.subset (List.mem_cons_self ..)
  obtain ⟨k,hk,he⟩:=E4 hmem
  rw [List.length_take] at hk
  have hxk:x=at_ l k:=by
   rw [he];unfold at_;rw [List.getD_eq_getElem?_getD,List.getD_eq_getElem?_getD,List.getElem?_take_of_lt (by omega)]
  have t1:D6 x (at_ l 0)=false:=by rw [hxk];exact a6.top k (by omega)
  rcases List.mem_cons.1 m0 with e | e
  ·exact e
  ·exact B2b (htop _ e) t1
 have hq':=hq
 obtain ⟨fq,hqs,hq0⟩:=hq
 refine E3 [] Tryz.func149 ?_
 refine J7 hqs hq0 ?_
 refine call (B6V q b l es.length st hq' a1 a7 a6 (by omega) (by omega)) (fun v st' hv=>?_)
 obtain ⟨rfl,l',hl',hp',hh',hq3,he3,hfr⟩:=hv
 rw [hx] at hp' ⊢
 have hsup':E2 st0 st':=fun c y hc=>by
  rw [hfr c (fun e=>by subst e;rw [h1] at hc;cases hc) (fun e=>by subst e;rw [a2] at hc;cases hc)];exact h2 c y hc
 conv=>whnf
 intro c hc;conv=>whnf
 refine stW (A0 ..) rfl ?_
 refine ⟨[],[],[0,1,2,3,4,5,6],by kernel_rfl,?_⟩;conv=>whnf
 refine J7 (A0 ..) rfl ?_
 refine J7 (A0 ..) rfl ?_
 obtain ⟨fq',hqs',hq0'⟩:=hq3
 obtain ⟨fe,hes,hef⟩:=he3
 have hcq:q≠c:=fun e=>by subst e;rw [hqs'] at hc;cases hc
 have hcb:b≠c:=fun e=>by subst e;rw [hes] at hc;cases hc
 have hc0:st0 c=none:=hsup'.none hc
 refine ⟨rfl,h1,(hsup'.over hc0).over hc0,_,⟨fq',by rw [A3 hcq,A3 hcq];exact hqs',hq0'⟩,.inr ⟨b,l',es.length,a1,a2,rfl,by omega,by omega,hh',⟨fe,by rw [A3 hcb,A3 hcb];exact hes,hef⟩,?_,fun e=>by cases e⟩⟩
 exact (List.perm_cons x).1 (hp'.trans a8)
abbrev gI (l:List Int) (k:Nat):Int:=l.getD k default
def swI (l:List Int) (i j:Nat):List Int:=(l.set i (gI l j)).set j (gI l i)
theorem B1i (l:List Int) (i j:Nat):(swI l i j).length=l.length:=by simp [swI]
theorem B0j {l:List Int} {i j:Nat} (hi:i<l.length) (hj:j<l.length) (k:Nat):gI (swI l i j) k=if k=j then gI l i else if k=i then gI l j else gI l k:=by
 unfold swI gI
 simp only [List.getD_eq_getElem?_getD,List.getElem?_set,List.length_set]
 by_cases h1:k=j
 ·subst h1;simp [hj]
 ·rw [if_neg (fun e=>h1 e.symm),if_neg h1]
  by_cases h2:k=i
  ·subst h2;simp [hi]
  ·rw [if_neg (fun e=>h2 e.symm),if_neg h2]
theorem B4p {l:List Int} {i j:Nat} (hi:i<l.length) (hj:j<l.length):(swI l i j).Perm l:=by
 have e1:gI l j=l[j]:=by simp [gI,hj]
 have e2:gI l i=l[i]:=by simp [gI,hi]
 unfold swI
 rw [e1,e2]
 exact List.set_set_perm hi hj
def A0U (st:St) (b:Nat) (l:List Int):Prop:=∃ f,st b=some ⟨3,1,l.length,f⟩∧∀ k,k<l.length→f k=eI (gI l k)
structure Ord (lt:Int→Int→Bool):Prop where
 asymm:∀ x y,lt x y=true→lt y x=false
 le:∀ x y z,lt y x=false→lt z y=false→lt z x=false
def Srt (lt:Int→Int→Bool) (l:List Int) (a e:Nat):Prop:=∀ x y,a≤x→x<y→y<e→lt (gI l y) (gI l x)=false
structure Ins (lt:Int→Int→Bool) (l:List Int) (a e j:Nat):Prop where
 rest:∀ x y,a≤x→x<y→y<e→x≠j→y≠j→lt (gI l y) (gI l x)=false
 up:∀ y,j<y→y<e→lt (gI l y) (gI l j)=false
theorem Srt.ins {lt:Int→Int→Bool} {l:List Int} {a i:Nat} (h:Srt lt l a i):Ins lt l a (i+1) i :=
 ⟨fun x y hx hxy hy h1 h2=>h x y hx hxy (by omega),fun y h1 h2=>by omega⟩
theorem Ins.done {lt:Int→Int→Bool} (ho:Ord lt) {l:List Int} {a e j:Nat} (h:Ins lt l a e j) (hj:j≤a∨lt (gI l j) (gI l (j - 1))=false):Srt lt l a e:=fun x y hx hxy hy=>by
 by_cases h1:x=j
 ·subst h1;exact h.up y hxy hy
 ·by_cases h2:y=j
  ·subst h2
   rcases hj with hj | hj
   ·omega
   ·by_cases h3:x=y - 1
    ·subst h3;exact hj
    ·exact ho.le _ _ _ (h.rest x (y - 1) hx (by omega) (by omega) h1 (by omega)) hj
  ·exact h.rest x y hx hxy hy h1 h2
theorem Ins.step {lt:Int→Int→Bool} (ho:Ord lt) {l:List Int} {a e j:Nat} (h:Ins lt l a e j) (hj:a<j) (hje:j<e) (he:e≤l.length) (hlt:lt (gI l j) (gI l (j - 1))=true):Ins lt (swI l j (j - 1)) a e (j - 1):=by
 have sw:=B0j (l:=l) (i:=j) (j:=j - 1) (by omega) (by omega)
 refine ⟨fun x y hx hxy hy h1 h2=>?_,fun y h1 h2=>?_⟩
 ·rw [sw x,sw y,if_neg h1,if_neg h2]
  by_cases hxj:x=j
  ·rw [if_pos hxj,if_neg (by omega)]
   exact h.rest (j - 1) y (by omega) (by omega) hy (by omega) (by omega)
  ·rw [if_neg hxj]
   by_cases hyj:y=j
   ·rw [if_pos hyj]
    exact h.rest x (j - 1) hx (by omega) (by omega) hxj (by omega)
   ·rw [if_neg hyj];exact h.rest x y hx hxy hy hxj hyj
 ·rw [sw y,sw (j - 1),if_neg (by omega),if_pos rfl]
  by_cases hyj:y=j
  ·rw [if_pos hyj];exact ho.asymm _ _ hlt
  ·rw [if_neg hyj];exact h.up y (by omega) h2
theorem A7s (b:Nat) (l:List Int) (n a e:Nat) (g:FuncId) (cs:List AV) (cf:Int→Int→Int) (lt:Int→Int→Bool) (hlt:∀ x y,decide (cf x y<0)=lt x y) (ho:Ord lt) (st:St) (hb:A0U st b l) (hae:a≤e) (he:e≤n) (hn:n≤l.length) (hl:l.length<4611686018427387904)
  (hg:∀ x∈l,∀ y∈l,∀ st',S P g (eI x::eI y::cs) st' fun v s=>v=eI (cf x y)∧s=st') :
  S P 318 [.own 1 b 0 n,eI a,eI e,.fn (.func g) [] cs] st fun v st'=>v=.tuple []∧∃ l',l'.Perm l∧Srt lt l' a e∧(∀ k,k<a∨e≤k→gI l' k=gI l k)∧A0U st' b l'∧∀ c,c≠b→st' c=st c:=by
 refine E3 [] Tryz.func318 ?_
 refine ⟨[0,1,2,3,8],fun m vs st'=>∃ (i:Nat) (l':List Int),a<i∧(i≤e∨i=a+1)∧l'.Perm l∧Srt lt l' a i∧(∀ k,k<a∨e≤k→gI l' k=gI l k)∧A0U st' b l'∧(∀ c,c≠b→st' c=st c)∧m=e - i∧vs=[.own 1 b 0 n,eI a,eI e,.fn (.func g) [] cs,eI i],?_,?_⟩
 ·conv=>whnf
  exact ⟨_,a+1,l,by omega,.inr rfl,List.Perm.refl _,fun x y h1 h2 h3=>by omega,fun _ _=>rfl,hb,fun _ _=>rfl,rfl,by rw [B7 (by omega)]⟩
 ·rintro m vs st' ⟨i,l',hai,hie,hp,hs,hout,hb',hfr,rfl,rfl⟩
  have hlen:l'.length=l.length:=hp.length_eq
  conv=>whnf
  cases h:decide ((i:Int)<(e:Int))
  ·have:=of_decide_eq_false h
   conv=>whnf
   refine ⟨rfl,l',hp,fun x y h1 h2 h3=>hs x y h1 h2 (by omega),hout,hb',hfr⟩
  ·have hi:i<e:=by have:=of_decide_eq_true h;omega
   conv=>whnf
   refine ⟨[0,1,2,3,8,9],fun m vs st''=>∃ (j:Nat) (l'':List Int),a≤j∧j≤i∧l''.Perm l∧Ins lt l'' a (i+1) j∧(∀ k,k<a∨e≤k→gI l'' k=gI l k)∧A0U st'' b l''∧(∀ c,c≠b→st'' c=st c)∧m=j∧vs=[.own 1 b 0 n,eI a,eI e,.fn (.func g) [] cs,eI i,eI j],?_,?_⟩
   ·conv=>whnf
    exact ⟨_,i,l',by omega,Nat.le_refl _,hp,hs.ins,hout,hb',hfr,rfl,rfl⟩
   ·clear hp hs hout hb' hfr hlen
    rintro j vs st'' ⟨_,l'',haj,hji,hp,hs,hout,⟨f,hst,hf⟩,hfr,rfl,rfl⟩
    have hlen:l''.length=l.length:=hp.length_eq
    have next:Srt lt l'' a (i+1)→∃ m',m'<e - i∧∃ (i_1:Nat) (l':List Int),a<i_1∧(i_1≤e∨i_1=a+1)∧l'.Perm l∧Srt lt l' a i_1∧(∀ k,k<a∨e≤k→gI l' k=gI l k)∧A0U st'' b l'∧(∀ c,c≠b→st'' c=st c)∧m'=e - i_1∧[AV.own 1 b 0 n,eI a,eI e,.fn (.func g) [] cs,eI (IntKind.i64.wrap ((i:Int)+1))]=[.own 1 b 0 n,eI a,eI e,.fn (.func g) [] cs,eI i_1] :=
     fun hsrt=>⟨e - (i+1),by omega,i+1,l'',by omega,.inl (by omega),hp,hsrt,hout,⟨f,hst,hf⟩,hfr,rfl,by rw [B7 (by omega)]⟩
    conv=>whnf
    refine ⟨[],[],[0,1,2,3,4,5,6,7,8,9,10,11,12,13,14,15,16],by kernel_rfl,?_⟩;conv=>whnf
    refine B5 (fun h1=>?_) (fun h1=>?_)<;>rw [h1]<;>simp only [decide_eq_true_eq,decide_eq_false_iff_not] at h1
    ·have w:IntKind.i64.wrap ((j:Int) - 1)=((j - 1:Nat):Int):=by rw [B0 (by omega) (by omega)];omega
     have fj:f (0+(j:Int).toNat)=eI (gI l'' j):=by rw [show 0+(j:Int).toNat=j by omega];exact hf j (by omega)
     have fj1:f (0+((j - 1:Nat):Int).toNat)=eI (gI l'' (j - 1)):=by rw [show 0+((j - 1:Nat):Int).toNat=j - 1 by omega];exact hf (j - 1) (by omega)
     conv=>whnf
     refine G9 ?_
     refine J7 hst fj ?_
     rw [w]
     refine G9 ?_
     refine J7 hst fj1 ?_
     refine cqW (hg (gI l'' j) (hp.subset (A7 (by omega))) (gI l'' (j - 1)) (hp.subset (A7 (by omega))) _) ?_
     rw [hlt]
     refine B5 (fun h2=>?_) (fun h2=>?_)<;>rw [h2]
     ·have hfj1:L4 f (0+(j:Int).toNat) (H7 (eI (gI l'' j)) 0 (cellsOf (eI (gI l'' (j - 1))))) (0+((j - 1:Nat):Int).toNat)=eI (gI l'' (j - 1)):=(J9 (by omega)).trans fj1
      conv=>whnf
      refine ⟨[15,17],[],[0,1,2,3,4,5,6,7,8,9,10,11,12,13,14,15,16,17],by kernel_rfl,?_⟩;conv=>whnf
      rw [w]
      refine G9 ?_
      refine J7 hst fj1 ?_
      refine G9 ?_
      refine J7 hst fj ?_
      refine G9 ?_
      refine stW hst fj ?_
      refine G9 ?_
      refine stW (A0 ..) hfj1 ?_
      refine H4 ?_
      have hjl:j<l''.length:=by omega
      refine ⟨j - 1,by omega,j - 1,swI l'' j (j - 1),by omega,by omega,(B4p hjl (by omega)).trans hp,hs.step ho (by omega) (by omega) (by omega) h2,fun k hk=>?_,⟨_,by rw [A0,B1i],fun k hk=>?_⟩,fun c hc=>by rw [A3 hc,A3 hc];exact hfr c hc,rfl,by rw [w]⟩
      ·rw [B0j hjl (by omega),if_neg (by omega),if_neg (by omega)];exact hout k hk
      ·rw [B1i] at hk
       rw [B0j hjl (by omega)]
       by_cases e1:k=j - 1
       ·subst e1
        rw [if_pos rfl,show 0+((j - 1:Nat):Int).toNat=j - 1 by omega,B3];rfl
       ·rw [if_neg e1,J9 (by omega)]
        by_cases e2:k=j
        ·subst e2
         rw [if_pos rfl,show 0+(k:Int).toNat=k by omega,B3];rfl
        ·rw [if_neg e2,J9 (by omega)];exact hf k hk
     ·conv=>whnf
      refine H4 ?_
      exact next (hs.done ho (.inr h2))
    ·conv=>whnf
     refine H4 ?_
     exact next (hs.done ho (.inl (by omega)))
theorem Srt.congr {lt:Int→Int→Bool} {l l':List Int} {a e:Nat} (h:Srt lt l a e) (hk:∀ k,a≤k→k<e→gI l' k=gI l k):Srt lt l' a e:=fun x y h1 h2 h3=>by
 rw [hk x h1 (by omega),hk y (by omega) h3];exact h x y h1 h2 h3
theorem B4m (b:Nat) (l:List Int) (g:FuncId) (cs:List AV) (cf:Int→Int→Int) (lt:Int→Int→Bool) (hlt:∀ x y,decide (cf x y<0)=lt x y) (ho:Ord lt) (st:St) (hb:A0U st b l) (hl:l.length≤20)
  (hg:∀ x∈l,∀ y∈l,∀ st',S P g (eI x::eI y::cs) st' fun v s=>v=eI (cf x y)∧s=st') :
  S P 262 [.own 1 b 0 l.length,eI l.length,.fn (.func g) [] cs] st fun v st'=>v=.tuple []∧∃ l',l'.Perm l∧Srt lt l' 0 l.length∧A0U st' b l'∧∀ c,c≠b→st' c=st c:=by
 refine E3 [] Tryz.func262 ?_
 refine ⟨[0,1,2,6,7,8],fun m vs st'=>(m=1∧st'=st∧vs=[.own 1 b 0 l.length,eI l.length,.fn (.func g) [] cs,eI 20,eI 0,eI 20]) ∨
  (m=0∧l.length=20∧(∃ l',l'.Perm l∧Srt lt l' 0 l.length∧A0U st' b l'∧∀ c,c≠b→st' c=st c)∧vs=[.own 1 b 0 l.length,eI l.length,.fn (.func g) [] cs,eI 20,eI 20,eI 40]),?_,?_⟩
 ·conv=>whnf
  exact ⟨1,.inl ⟨rfl,rfl,rfl⟩⟩
 ·rintro m vs st' (⟨rfl,rfl,rfl⟩ | ⟨rfl,h20,⟨l',hp,hs,hb',hfr⟩,rfl⟩)
  ·conv=>whnf
   refine B5 (fun h1=>?_) (fun h1=>?_)<;>rw [h1]<;>simp only [decide_eq_true_eq,decide_eq_false_iff_not] at h1
   ·have h20:l.length=20:=by omega
    conv=>whnf
    refine call (A7s b l l.length 0 20 g cs cf lt hlt ho _ hb (by omega) (by omega) (by omega) (by omega) hg) (fun v st1 hv=>?_)
    obtain ⟨rfl,l',hp,hs,hout,hb',hfr⟩:=hv
    conv=>whnf
    refine H4 ?_
    exact ⟨0,by omega,.inr ⟨rfl,h20,⟨l',hp,by rw [h20];exact hs,hb',hfr⟩,rfl⟩⟩
   ·conv=>whnf
    refine call (A7s b l l.length 0 l.length g cs cf lt hlt ho _ hb (by omega) (by omega) (by omega) (by omega) hg) (fun v st1 hv=>?_)
    obtain ⟨rfl,l',hp,hs,hout,hb',hfr⟩:=hv
    conv=>whnf
    refine A6g [0,1,2,6] ?_;conv=>whnf
    intro I
    refine B5 (fun h2=>?_) (fun h2=>?_)<;>rw [h2]<;>simp only [decide_eq_true_eq,decide_eq_false_iff_not] at h2
    ·exact absurd h2 (by omega)
    ·conv=>whnf
     exact ⟨rfl,l',hp,hs,hb',hfr⟩
  ·have hlen:l'.length=l.length:=hp.length_eq
   conv=>whnf
   refine B5 (fun h1=>?_) (fun h1=>?_)<;>rw [h1]<;>simp only [decide_eq_true_eq,decide_eq_false_iff_not] at h1
   ·exact absurd h1 (by omega)
   ·conv=>whnf
    refine call (A7s b l' l.length 20 l.length g cs cf lt hlt ho _ hb' (by omega) (by omega) (by omega) (by omega) (fun x hx y hy=>hg x (hp.subset hx) y (hp.subset hy))) (fun v st1 hv=>?_)
    obtain ⟨rfl,l2,hp2,hs2,hout,hb2,hfr2⟩:=hv
    conv=>whnf
    refine A6g [0,1,2,6] ?_;conv=>whnf
    intro I
    refine B5 (fun h2=>?_) (fun h2=>?_)<;>rw [h2]<;>simp only [decide_eq_true_eq,decide_eq_false_iff_not] at h2
    ·exact absurd h2 (by omega)
    ·conv=>whnf
     exact ⟨rfl,l2,hp2.trans hp,hs.congr (fun k _ hk=>hout k (by omega)),hb2,fun c hc=>(hfr2 c hc).trans (hfr c hc)⟩
def A0Y (N:Nat):Prop:=∀ (b:Nat) (l:List Int) (g:FuncId) (cs:List AV) (cf:Int→Int→Int) (lt:Int→Int→Bool) (hlt:∀ x y,decide (cf x y<0)=lt x y) (ho:Ord lt) (st:St) (hb:A0U st b l) (hl:l.length≤N)
  (hg:∀ x∈l,∀ y∈l,∀ st',S P g (eI x::eI y::cs) st' fun v s=>v=eI (cf x y)∧s=st'),
  S P 262 [.own 1 b 0 l.length,eI l.length,.fn (.func g) [] cs] st fun v st'=>v=.tuple []∧∃ l',l'.Perm l∧Srt lt l' 0 l.length∧A0U st' b l'∧∀ c,c≠b→st' c=st c
theorem B4l:A0Y 20:=fun b l g cs cf lt hlt ho st hb hl hg=>B4m b l g cs cf lt hlt ho st hb hl hg
theorem A7V {N:Nat} (hN:A0Y N) (b:Nat) (l:List Int) (g:FuncId) (cs:List AV) (cf:Int→Int→Int) (lt:Int→Int→Bool) (hlt:∀ x y,decide (cf x y<0)=lt x y) (ho:Ord lt) (st:St) (hb:A0U st b l) (hl:l.length≤N)
  (hg:∀ x∈l,∀ y∈l,∀ st',S P g (eI x::eI y::cs) st' fun v s=>v=eI (cf x y)∧s=st') :
  S P 190 [.own 1 b 0 l.length,.fn (.func g) [] cs] st fun v st'=>v=.tuple []∧∃ l',l'.Perm l∧Srt lt l' 0 l.length∧A0U st' b l'∧∀ c,c≠b→st' c=st c:=by
 refine E3 [] Tryz.func190 ?_
 refine call (hN b l g cs cf lt hlt ho st hb hl hg) (fun v st' hv=>?_)
 obtain ⟨rfl,h⟩:=hv
 conv=>whnf
 exact ⟨rfl,h⟩
theorem B3y (f:AV) (st:St):S P 318 [.emp,eI 0,eI 0,f] st fun v st'=>v=.tuple []∧st'=st:=by
 refine E3 [] Tryz.func318 ?_
 refine A6g [0,1,2,3,8] ?_;conv=>whnf
 intro I
 exact ⟨rfl,rfl⟩
theorem B2p (f:AV) (st:St):S P 262 [.emp,eI 0,f] st fun v st'=>v=.tuple []∧st'=st:=by
 refine E3 [] Tryz.func262 ?_
 refine A6g [0,1,2,6,7,8] ?_;conv=>whnf
 intro I
 refine H9 (B3y f st) ?_
 refine A6g [0,1,2,6] ?_;conv=>whnf
 intro I
 exact ⟨rfl,rfl⟩
theorem A6m (f:AV) (st:St):S P 190 [.emp,f] st fun v st'=>v=.tuple []∧st'=st:=by
 refine E3 [] Tryz.func190 ?_
 refine H9 (B2p f st) ?_
 exact ⟨rfl,rfl⟩
end Go.Proofs.YtbajhapmlfbelaaGreat
