/- Part 25 of the proof: contracts of the functions that the law reaches -/
import Derived.Test.YtaapofnkmpiknaaGreatRt24
set_option maxRecDepth 100000
set_option linter.unusedVariables false
set_option linter.unusedSimpArgs false
namespace Go.Proofs.YtaapofnkmpiknaaGreat
open Go Go.Ab
attribute [local irreducible] upd del
theorem B7r {kn:C8→Bool} {l:List E7} (h:∀ x∈l,K2 kn x=false):O8 kn l=O8 (fun _=>true) l:=by
 unfold O8
 rw [D8f.2 fun x hx=>by rw [h x hx];simp,D8f.2 fun x hx=>by
  have:=h x hx
  simp only [K2,D6g,D5G] at this
  unfold K2;rw [this.2];simp]
theorem C3S (items:List Ab.Item) (l:List E7) (hi:Sm items.length) (hl:Sm l.length) (st:St):S P 160 [A8 4 E5 items,A8 3 H7 l] st fun v st'=>v=eI (O8 (known items) l)∧st'=st:=by
 refine F1 [] Tryz.func160 ?_
 refine lp l.length [0,1,5] (fun i vs s=>(∀ k,k<i→K2 (known items) (l.getD k default)=false)∧vs=[A8 4 E5 items,A8 3 H7 l,eI i]∧s=st) ?_ ?_
 ·conv=>whnf
  exact ⟨fun k hk=>absurd hk (by omega),rfl,rfl⟩
 ·rintro i vs st' hi2 ⟨hok,rfl,rfl⟩
  conv=>whnf
  cases h:decide ((i:Int)<(l.length:Int))
  ·obtain rfl:=C2 h hi2
   conv=>whnf
   refine I2 (B8r l _) ?_
   rw [B7r (kn:=known items) fun x hx=>by obtain ⟨k,hk,rfl⟩:=D3 hx;exact hok k hk]
   exact ⟨rfl,rfl⟩
  ·have hi':=D6 h
   conv=>whnf
   refine B8 (fun h1=>?_) (fun h1=>?_)<;>rw [h1]
   ·have hs:l.length≤1000:=by have:=D5D h1;omega
    have hc:O8 (known items) l=match l.find? (K2 (known items)) with
     | some x=>if known items x.sku=true then 2 else 7
     | none=>if (decide (L9 l>100000)||decide (J6 l>10000000000000))=true then 5 else 0:=if_neg (by omega)
    have n1:=B4N items (l.getD (i:Int).toNat default).sku hi st'
    have n3:=A2O (l.getD (i:Int).toNat default).price 1000000000 st'
    have yes:K2 (known items) (l.getD (i:Int).toNat default)=false→∀ k,k<i+1→K2 (known items) (l.getD k default)=false:=fun h=>G6 hok h
    have no:K2 (known items) (l.getD (i:Int).toNat default)=true→O8 (known items) l=if known items (l.getD i default).sku=true then 2 else 7:=fun h=>by
     rw [hc,A4o hi' hok h]
    have e:K2 (known items) (l.getD (i:Int).toNat default)=!(!decide (P2 items (l.getD (i:Int).toNat default).sku<0)&&(!decide ((l.getD (i:Int).toNat default).qty<0)&&!decide ((l.getD (i:Int).toNat default).qty>100000)&&J9 0 1000000000 (l.getD (i:Int).toNat default).price)):=by
     unfold K2 lineC known;congr 1;congr 1
     ·rw [←decide_not];exact D7q.2 (by omega)
     ·congr 1;unfold J9;congr 1<;>(rw [←decide_not];exact D7q.2 (by omega))
    have e2:known items (l.getD i default).sku=!decide (P2 items (l.getD (i:Int).toNat default).sku<0):=by
     unfold known;rw [←decide_not];exact D7q.2 (by rw [D5N];omega)
    rw [e] at yes no
    rw [e2] at no
    generalize P2 items (l.getD (i:Int).toNat default).sku=F at *
    generalize J9 0 1000000000 (l.getD (i:Int).toNat default).price=b3 at n3 yes no
    clear e e2 hc
    repeat' ((conv=>whnf);first | refine ⟨rfl,⟨by omega,by omega⟩,?_⟩ | refine B3 n1 ?_ | refine B3 n3 ?_ | cases b3 | (refine B8 (fun h=>?_) (fun h=>?_)<;>rw [h]))
    all_goals (conv=>whnf)
    all_goals first
     | (refine ⟨?_,rfl⟩;rw [no (by simp only [*,D6p,D5Z,D6e,D6h]),if_neg (by simp only [*];simp)];rfl)
     | (refine ⟨?_,rfl⟩;rw [no (by simp only [*,D6p,D5Z,D6e,D6h]),if_pos (by simp only [*,D6h])];rfl)
     | (refine ⟨rfl,?_⟩;conv=>whnf
        exact nx hi' ⟨yes (by simp only [*,D6h,D6t,D6p]),by rw [B4 (by omega)],rfl⟩)
   ·have:=D5E h1
    conv=>whnf
    refine I2 (B8r l _) ?_
    exact ⟨by rw [show O8 (known items) l=6 from if_pos (by omega),show O8 (fun _=>true) l=6 from if_pos (by omega)];rfl,rfl⟩
theorem C3Z (l:List E7) (hl:l.length≤1000) (hok:∀ x∈l,lineC x=true) (hm:O8 (fun _=>true) l=0) (hN:(V9 l).length≤100000) (st:St):S P 161 [A8 3 H7 l] st fun v st'=>v=C6 (V9 l)∧st'=st:=by
 refine A0M (ty:=223) ?_
 refine F1 [] Tryz.func161 ?_
 refine B3 (B8r l _) ?_
 rw [hm];conv=>whnf
 refine lp l.length [0,3,4] (fun i vs s=>∃ sv,vs=[A8 3 H7 l,sv,eI i]∧E1 223 3 Z5 (G3 l i) st sv s) ?_ ?_
 ·conv=>whnf
  exact ⟨.emp,rfl,E1.start _ _ _ _⟩
 ·rintro i vs st' hi ⟨sv,rfl,hc⟩
  conv=>whnf
  cases h:decide ((i:Int)<(l.length:Int))
  ·obtain rfl:=C2 h hi
   conv=>whnf
   exact hc
  ·have hi':=D6 h
   have hx:lineC (l.getD (i:Int).toNat default)=true:=hok _ (A6 hi')
   obtain ⟨⟨q0,q1⟩,_⟩:=(A0C _).1 hx
   have hq:(l.getD (i:Int).toNat default).qty=((l.getD i default).qty.toNat:Int):=by rw [D5N] at *;omega
   have hlt:=fun {j} (hj:j<(l.getD i default).qty.toNat)=>B2t hi' hj
   generalize hn:(l.getD i default).qty.toNat=n at *
   conv=>whnf
   refine lp n [0,3,4,5] (fun j vs s=>∃ sv,vs=[A8 3 H7 l,sv,eI i,eI j]∧E1 223 3 Z5 (G3 l i++List.replicate j (lnU l i)) st sv s) ?_ ?_
   ·conv=>whnf
    exact ⟨sv,rfl,by rw [List.replicate_zero,D7v];exact hc⟩
   ·clear hc
    rintro j vs s hj ⟨sv,rfl,hc⟩
    conv=>whnf
    refine E4 ?_
    rw [hq]
    cases h:decide ((j:Int)<(n:Int))
    ·obtain rfl:=C2 h hj
     conv=>whnf
     refine F6 ?_
     refine nx hi' ⟨sv,by rw [B4 (by omega)],?_⟩
     unfold G3;rw [hn];exact hc
    ·have hj':=D6 h
     have h5:=hlt hj'
     have h6:(G3 l l.length).length≤100000:=hN
     conv=>whnf
     refine E4 ?_
     refine E1.app (q:=C1h) (y:=lnU l i) rfl rfl rfl rfl rfl rfl (by show (_+1) * 24≤140737488355328;omega) hc (fun sv' s' hc'=>?_);conv=>whnf
     refine F6 ?_
     exact nx hj' ⟨sv',by rw [B4 (by omega)],by rw [List.replicate_succ',←D7b];exact hc'⟩
theorem B6u (items:List Ab.Item) (l:List E7) (hi:Sm items.length) (hl:l.length≤1000) (hk:∀ x∈l,known items x.sku=true) (st:St):S P 116 [A8 4 E5 items,A8 3 H7 l] st fun v st'=>v=A8 4 E5 (C3 items l)∧st'=st:=by
 refine A0M (ty:=86) ?_
 refine F1 [] Tryz.func116 ?_
 refine lp l.length [0,1,5,6] (fun i vs s=>∃ sv,vs=[A8 4 E5 items,A8 3 H7 l,sv,eI i]∧E1 86 4 E5 (C3 items (l.take i)) st sv s) ?_ ?_
 ·conv=>whnf
  exact ⟨.emp,rfl,E1.start _ _ _ _⟩
 ·rintro i vs st' hi2 ⟨sv,rfl,hc⟩
  conv=>whnf
  cases h:decide ((i:Int)<(l.length:Int))
  ·obtain rfl:=C2 h hi2
   rw [D5L] at hc;conv=>whnf
   exact hc
  ·have hi':=D6 h
   have hmem:l.getD (i:Int).toNat default∈l:=A6 hi'
   have hkn:=hk _ hmem
   simp only [known,D5C] at hkn
   have hlt:P2 items (l.getD (i:Int).toNat default).sku<(items.length:Int):=(A9h (fun x:Ab.Item=>x.sku.toList==(l.getD (i:Int).toNat default).sku.toList) items).2
   have hlen:(C3 items (l.take i)).length=i:=by unfold C3;rw [D5F,D5K];omega
   conv=>whnf
   refine E4 ?_
   refine I2 (B4N items (l.getD (i:Int).toNat default).sku (by omega) _) ?_
   refine B8 (fun h1=>?_) (fun h1=>?_)
   ·exact absurd (D5D h1) (by omega)
   ·rw [h1];conv=>whnf
    refine E4 ?_
    refine E1.app (q:=r86) (y:=items.getD (P2 items (l.getD (i:Int).toNat default).sku).toNat default) rfl rfl rfl rfl rfl rfl (by show (_+1) * 48≤140737488355328;omega) hc (fun sv' s' hc'=>?_);conv=>whnf
    refine F6 ?_
    refine nx hi' ⟨sv',by rw [B4 (by omega)],?_⟩
    unfold C3 at hc' ⊢
    rw [A1Q hi'];exact hc'
end Go.Proofs.YtaapofnkmpiknaaGreat
namespace Go.Proofs.YtaapofnkmpiknaaGreat
open Go Go.Ab
theorem B3G (l:List B1) (o:List Int):(P4 l o).Perm o:=by
 have h:=(A1z l o).map fun e:QE=>gI o e.2.toNat
 rw [D8a] at h
 have e:(List.range o.length).map ((fun e:QE=>gI o e.2.toNat) ∘ B1W l o)=o:=by
  refine D8i (by simp) fun k h1 h2=>?_
  rw [List.getElem_map,List.getElem_range]
  show o.getD k default=_
  rw [D5A,D5I h2];rfl
 rw [e] at h;exact h
end Go.Proofs.YtaapofnkmpiknaaGreat
namespace Go.Proofs.YtaapofnkmpiknaaGreat
open Go Go.Ab
attribute [local irreducible] upd del
def B5 (v n:Int):Int:=v % 18446744073709551616 % n
theorem C7 (v:Int) {n:Int} (h:0<n):0≤B5 v n∧B5 v n<n:=⟨D6X _ (by omega),D6L _ h⟩
theorem B9X (x:Int):IntKind.u64.wrap x=x % 18446744073709551616:=rfl
theorem C3q (v:Int) {n:Int} (h0:0<n) (h1:n≤9223372036854775807):IntKind.i64.wrap (Int.tmod (IntKind.u64.wrap v) (IntKind.u64.wrap n))=B5 v n:=by
 have h2:=C7 v h0
 have e1:IntKind.u64.wrap n=n:=by rw [B9X];omega
 have e2:Int.tmod (IntKind.u64.wrap v) n=B5 v n:=by rw [D7p (by rw [B9X];omega)];rfl
 rw [e1,e2,A5 (by omega) (by omega)]
theorem Z8 (v n:Int) (h0:0<n) (h1:n≤9223372036854775807) (st:St):S P 22 [eI v,eI n] st fun r st'=>r=eI (B5 v n)∧st'=st:=by
 refine F1 [] Tryz.func22 ?_
 rw [D5H (show ¬ IntKind.u64.wrap n=0 by rw [B9X];omega)];conv=>whnf
 refine ⟨?_,rfl⟩
 rw [←C3q v h0 h1];rfl
theorem O2 (v n:Int) (h0:0<n) (h1:n≤9223372036854775807) (st:St):S P 24 [eI v,eI n] st fun r st'=>r=eI (B5 v n)∧st'=st:=by
 refine F1 [] Tryz.func24 ?_
 rw [D5H (show ¬ IntKind.u64.wrap n=0 by rw [B9X];omega)];conv=>whnf
 refine ⟨?_,rfl⟩
 rw [←C3q v h0 h1];rfl
def Z4 (c:Int):C8:=B2m [IntKind.u8.wrap c]
def A1q (n:Int):C8:=Z4 (97+B5 n 8)
def A5w (n:Int):C8:=Z4 (120+B5 n 3)
def idN (n:Int):C8:=(⟨#[112]⟩:C8)++Z4 (48+B5 n 10)
def A5o (n:Int):C8:=(⟨#[99]⟩:C8)++Z4 (48+B5 n 3)
theorem B2v (c x:Int):IntKind.u8.wrap (c+IntKind.u8.wrap x)=IntKind.u8.wrap (c+x):=by
 show (c+x % 256) % 256=(c+x) % 256
 omega
theorem C4n (n:Int) (st:St):S P 36 [eI n] st fun r st'=>r=eS (A1q n)∧st'=st:=by
 refine F1 [] Tryz.func36 ?_
 refine I2 (Z8 n 8 (by decide) (by decide) _) ?_
 refine ⟨?_,rfl⟩
 show AV.str (B2m [IntKind.u8.wrap (97+IntKind.u8.wrap (B5 n 8))])=_
 rw [B2v];rfl
theorem A4T (n:Int) (st:St):S P 155 [eI n] st fun r st'=>r=eS (A5w n)∧st'=st:=by
 refine F1 [] Tryz.func155 ?_
 refine I2 (Z8 n 3 (by decide) (by decide) _) ?_
 refine ⟨?_,rfl⟩
 show AV.str (B2m [IntKind.u8.wrap (120+IntKind.u8.wrap (B5 n 3))])=_
 rw [B2v];rfl
theorem D2W (n:Int) (st:St):S P 207 [eI n] st fun r st'=>r=eS (idN n)∧st'=st:=by
 refine F1 [] Tryz.func207 ?_
 refine I2 (Z8 n 10 (by decide) (by decide) _) ?_
 refine ⟨?_,rfl⟩
 show AV.str ((⟨#[112]⟩:C8)++B2m [IntKind.u8.wrap (48+IntKind.u8.wrap (B5 n 10))])=_
 rw [B2v];rfl
theorem C2N (n:Int) (st:St):S P 113 [eI n] st fun r st'=>r=eS (A5o n)∧st'=st:=by
 refine F1 [] Tryz.func113 ?_
 refine I2 (Z8 n 3 (by decide) (by decide) _) ?_
 refine ⟨?_,rfl⟩
 show AV.str ((⟨#[99]⟩:C8)++B2m [IntKind.u8.wrap (48+IntKind.u8.wrap (B5 n 3))])=_
 rw [B2v];rfl
def B4E (s:C8):Nat→Int
 | 0=>s.size
 | i+1=>IntKind.i64.wrap (IntKind.i64.wrap (7 * B4E s i)+chr s i)
def A2N (s:C8):Int:=B4E s (min s.size 8)
theorem C2K (s:C8) (i:Nat):0≤chr s i∧chr s i<256:=by
 unfold chr;split
 ·rename_i h;have:=(s[i]'h).toNat_lt;omega
 ·omega
theorem B1B (s:C8) (st:St):S P 114 [eS s] st fun r st'=>r=eI (A2N s)∧st'=st:=by
 refine F1 [] Tryz.func114 ?_
 refine lp (min s.size 8) [0,3,4] (fun i vs t=>vs=[eS s,eI (B4E s i),eI i]∧t=st) ?_ ?_
 ·conv=>whnf
  exact ⟨rfl,rfl⟩
 ·rintro i vs t hi ⟨rfl,rfl⟩
  conv=>whnf
  refine B8 (fun h1=>?_) (fun h1=>?_)<;>rw [h1]<;>simp only [D5C,D5B] at h1
  ·conv=>whnf
   refine B8 (fun h2=>?_) (fun h2=>?_)<;>rw [h2]<;>simp only [D5C,D5B] at h2
   ·have hi':i<min s.size 8:=by omega
    conv=>whnf
    refine C5M (i:=i) rfl (by omega) ?_;conv=>whnf
    refine F6 ?_
    refine nx hi' ⟨?_,rfl⟩
    rw [B4 (by omega)]
    have hc:IntKind.i64.wrap (chr s i)=chr s i:=A5 (by have:=C2K s i;omega) (by have:=C2K s i;omega)
    show [eS s,eI (IntKind.i64.wrap (IntKind.i64.wrap (7 * B4E s i)+IntKind.i64.wrap (chr s i))),eI ((i+1:Nat):Int)]=_
    rw [hc];rfl
   ·obtain rfl:i=min s.size 8:=by omega
    conv=>whnf
    exact ⟨rfl,rfl⟩
  ·obtain rfl:i=min s.size 8:=by omega
   conv=>whnf
   exact ⟨rfl,rfl⟩
def C2W (r:H0):Bool:=decide ((r.items.length:Int)<60)&&decide ((r.promos.length:Int)<30)&&decide ((r.tax.zones.length:Int)<30)&&decide ((r.policy.order.length:Int)<30)&&decide ((r.policy.credit.length:Int)<30)
theorem C9b (r:H0) (st:St):S P 43 [H5 r] st fun v st'=>v=.bool (C2W r)∧st'=st:=by
 refine SyW [1] Tryz.func43 ?_
 unfold C2W
 repeat' ((conv=>whnf);first | (refine B8 (fun h=>?_) (fun h=>?_)<;>rw [h]))
 all_goals (conv=>whnf)
 all_goals exact ⟨by simp only [D5P,D5Z];rfl,rfl⟩
def A6l (l:List C8) (most:Nat) (kinds:Int) (name:Int→C8) (out:List C8) (k:Nat):List C8 :=
 if (decide (out.length<most)&&(l.take 4).any fun s=>B5 (A2N s) kinds==k)=true then out++[name k] else out
def S9 (l:List C8) (most:Nat) (kinds:Int) (name:Int→C8) (k:Nat):List C8:=(List.range k).foldl (A6l l most kinds name) []
theorem A6m (l:List C8) (most:Nat) (kinds:Int) (name:Int→C8) (k:Nat):S9 l most kinds name (k+1)=A6l l most kinds name (S9 l most kinds name k) k:=by
 unfold S9;rw [D7i,D7P];rfl
theorem B8B (l:List C8) (most:Nat) (kinds:Int) (name:Int→C8) (k:Nat):(S9 l most kinds name k).length≤k:=by
 induction k with
 | zero=>exact D5J _
 | succ k ih =>
  rw [A6m];unfold A6l
  split
  ·rw [D5M];show _+1≤_;omega
  ·omega
theorem B8C (l:List C8) (most kinds:Nat) (name:Int→C8) (g:FuncId) (hk:0<kinds) (hk2:kinds≤100) (hg:∀ (n:Int) (st:St),S P g [eI n] st fun v st'=>v=eS (name n)∧st'=st) (st:St) :
  S P 112 [C9 l,eI most,eI kinds,.fn (.func g) [] []] st fun v st'=>v=C9 (S9 l most kinds name kinds)∧st'=st:=by
 refine A0M (ty:=9) ?_
 refine F1 [] Tryz.func112 ?_
 refine lp kinds [0,1,2,3,9,10] (fun k vs s=>∃ sv,vs=[C9 l,eI most,eI kinds,.fn (.func g) [] [],sv,eI k]∧E1 9 1 eS (S9 l most kinds name k) st sv s) ?_ ?_
 ·conv=>whnf
  exact ⟨.emp,rfl,E1.start _ _ _ _⟩
 ·rintro k vs s hk1 ⟨sv,rfl,hc⟩
  conv=>whnf
  cases hd:decide ((k:Int)<(kinds:Int))
  ·obtain rfl:=C2 hd hk1
   conv=>whnf
   exact hc
  ·have hk':=D6 hd
   have hlen:=B8B l most kinds name k
   have hS:=A6m l most kinds name k
   unfold A6l at hS;conv=>whnf
   refine lp (min l.length 4) [0,1,2,3,9,10,11] (fun i vs t=>(∀ j,j<i→(B5 (A2N (l.getD j default)) kinds==k)=false)∧vs=[C9 l,eI most,eI kinds,.fn (.func g) [] [],sv,eI k,eI i]∧t=s) ?_ ?_
   ·conv=>whnf
    exact ⟨fun j hj=>absurd hj (by omega),rfl,rfl⟩
   ·rintro i vs t hi ⟨hok,rfl,rfl⟩
    have hstop:i=min l.length 4→((l.take 4).any fun s=>B5 (A2N s) kinds==k)=false:=fun e=>by
     refine D6F.2 fun x hx=>?_
     obtain ⟨j,hj,rfl⟩:=D3 hx
     rw [D5K] at hj
     rw [show (l.take 4).getD j default=l.getD j default by rw [D5A,D5A,D5O (by omega)],hok j (by omega)]
     simp
    have hsv:(sv=.emp∧(S9 l most kinds name k).length=0)∨∃ b,sv=.own 1 b 0 (S9 l most kinds name k).length:=by
     rcases hc with ⟨h0,h1,_⟩ | ⟨_,b,_,_,h1,_⟩
     ·exact .inl ⟨h1,h0⟩
     ·exact .inr ⟨b,h1⟩
    have hrun:∀ {t':St} {sv':AV},E1 9 1 eS (S9 l most kinds name (k+1)) st sv' t'→∃ sv,[C9 l,eI most,eI kinds,.fn (.func g) [] [],sv',eI (IntKind.i64.wrap ((k:Int)+1))]=[C9 l,eI most,eI kinds,.fn (.func g) [] [],sv,eI ((k+1:Nat):Int)]∧E1 9 1 eS (S9 l most kinds name (k+1)) st sv t':=fun {t' sv'} h=>⟨sv',by rw [B4 (by omega)],h⟩
    conv=>whnf
    refine B8 (fun h1=>?_) (fun h1=>?_)<;>rw [h1]<;>simp only [D5C,D5B] at h1
    ·conv=>whnf
     refine B8 (fun h2=>?_) (fun h2=>?_)<;>rw [h2]<;>simp only [D5C,D5B] at h2
     ·have hi':i<min l.length 4:=by omega
      rcases hsv with ⟨rfl,hl0⟩ | ⟨b,rfl⟩
      all_goals
       conv=>whnf
       refine B8 (fun h3=>?_) (fun h3=>?_)<;>rw [h3]<;>simp only [D5C,D5B] at h3
       ·conv=>whnf
        refine E4 ?_
        refine I2 (B1B _ _) ?_
        refine I2 (Z8 _ (kinds:Int) (by omega) (by omega) _) ?_
        cases h4:(B5 (A2N (l.getD (i:Int).toNat default)) (kinds:Int)==(k:Int))
        ·conv=>whnf
         refine F6 ?_
         exact nx hi' ⟨G6 hok h4,by rw [B4 (by omega)],rfl⟩
        ·have hm:(decide ((S9 l most kinds name k).length<most)&&(l.take 4).any fun s=>B5 (A2N s) kinds==k)=true:=by
          rw [D5G,D5C,D7m]
          refine ⟨by omega,l.getD (i:Int).toNat default,?_,h4⟩
          rw [show l.getD (i:Int).toNat default=(l.take 4).getD i default by rw [D5A,D5A,D5O (by omega)];rfl]
          exact A6 (by rw [D5K];omega)
         rw [if_pos hm] at hS;conv=>whnf
         refine I2 (hg _ _) ?_
         refine E1.app (q:=r9) rfl rfl rfl rfl rfl (by rfl) (by show ((S9 l most kinds name k).length+1) * 16≤140737488355328;omega) hc (fun sv' t' hc'=>?_);conv=>whnf
         refine F6 ?_
         exact nx hk' (hrun (by rw [hS];exact hc'))
       ·rw [if_neg (by rw [D5H (by omega)];simp)] at hS;conv=>whnf
        refine F6 ?_
        exact nx hk' (hrun (by rw [hS];exact hc))
     ·rw [if_neg (by rw [hstop (by omega)];simp)] at hS;conv=>whnf
      refine F6 ?_
      exact nx hk' (hrun (by rw [hS];exact hc))
    ·rw [if_neg (by rw [hstop (by omega)];simp)] at hS;conv=>whnf
     refine F6 ?_
     exact nx hk' (hrun (by rw [hS];exact hc))
def Q2 (s:W1):W1:=⟨S9 s.skus 3 8 A1q 8,S9 s.cats 2 3 A5w 3⟩
theorem B6s (s:W1) (st:St):S P 208 [A3V s] st fun v st'=>v=A3V (Q2 s)∧st'=st:=by
 have h1:=fun st=>B8C s.skus 3 8 A1q 36 (by decide) (by decide) C4n st
 have h2:=fun st=>B8C s.cats 2 3 A5w 155 (by decide) (by decide) A4T st
 unfold Q2
 generalize S9 s.skus 3 8 A1q 8=a at h1 ⊢
 generalize S9 s.cats 2 3 A5w 3=b at h2 ⊢
 refine A1C ?_
 refine F1 [1] Tryz.func208 ?_
 intro b2 hb;conv=>whnf
 refine ⟨[7],[],List.range 8,by kernel_rfl,?_⟩;conv=>whnf
 refine cqW (h1 _) ?_
 refine cqW (h2 _) ?_
 refine X8 (A0 ..) rfl ?_
 refine I4 (A0 ..) (A4 ..) ?_
 exact ⟨rfl,((E6.refl st).upd hb).over hb⟩
def J4 (l:List C8):List C8:=S9 l 3 3 A5o 3
theorem B6i (l:List C8) (st:St):S P 53 [C9 l] st fun v st'=>v=C9 (J4 l)∧st'=st:=by
 refine F1 [] Tryz.func53 ?_
 refine I2 (B8C l 3 3 A5o 113 (by decide) (by decide) C2N _) ?_
 exact ⟨rfl,rfl⟩
def A6e (x:E7):E7:=⟨A1q (A2N x.sku),B5 x.qty 10,B5 x.price 4000⟩
def A6M (l:List E7):List E7:=(l.take 8).map A6e
def O4 (l:List Ab.Item) (k:Nat):Ab.Item :=
 if k<l.length then ⟨A1q k,A5w (A2N (l.getD k default).cat),B5 (l.getD k default).price 4000,(l.getD k default).final&&k==7⟩ else ⟨A1q k,A5w k,100+37 * k,false⟩
def G2 (l:List Ab.Item):List Ab.Item:=(List.range 8).map (O4 l)
theorem A5V {α : Type} (f:Nat→α) (k:Nat):(List.range (k+1)).map f=(List.range k).map f++[f k]:=by rw [D7i,D6i];rfl
theorem B6k (l:List Ab.Item) (st:St):S P 100 [A8 4 E5 l] st fun v st'=>v=A8 4 E5 (G2 l)∧st'=st:=by
 refine S.post (post:=fun v st'=>∃ base,E6 st base∧E1 86 4 E5 (G2 l) base v st') ?_ (fun v st' ⟨base,hs,hc⟩=>⟨_,st,⟨rfl,rfl⟩,hc.shift.trans (hs.shift _)⟩)
 refine F1 [] Tryz.func100 ?_
 refine lp 8 [0,3,4] (fun k vs s=>∃ sv base,vs=[A8 4 E5 l,sv,eI k]∧E6 st base∧E1 86 4 E5 ((List.range k).map (O4 l)) base sv s) ?_ ?_
 ·conv=>whnf
  exact ⟨.emp,st,rfl,E6.refl _,E1.start _ _ _ _⟩
 ·rintro k vs s hk ⟨sv,base,rfl,hsup,hc⟩
  conv=>whnf
  refine B8 (fun h1=>?_) (fun h1=>?_)<;>rw [h1]<;>simp only [D5C,D5B] at h1
  ·have hk':k<8:=by omega
   have hnext:=A5V (O4 l) k
   have hlen:((List.range k).map (O4 l)).length=k:=by rw [D5F,D6d]
   have w1:IntKind.i64.wrap (100+IntKind.i64.wrap (37 * (k:Int)))=100+37 * (k:Int):=by
    rw [A5 (x:=37 * (k:Int)) (by omega) (by omega),A5 (by omega) (by omega)]
   conv=>whnf
   refine I2 (C4n _ _) ?_
   refine I2 (A4T _ _) ?_
   intro b hb;conv=>whnf
   refine stU (A0 ..) rfl ?_
   rw [B7]
   have hbb:base b=none:=Col.off hc hb
   have hc1:=fun y=>Col.under (y:=y) hc hb
   have hend:∀ {t:St} {Y:K8} {x:AV} {g:Nat→AV} {K:KK},t=upd s b Y→A0i 4 t x=some (1,g)→g 0=E5 (O4 l k)→(∀ sv' t',E1 86 4 E5 ((List.range (k+1)).map (O4 l)) (upd base b Y) sv' t'→K sv' t')→A5x T 22 sv x t K:=fun {t Y x g K} e hs hg hk=>by
    subst e
    refine E1.app (q:=r86) rfl rfl rfl rfl hs hg (by rw [hlen];show (k+1) * 48≤140737488355328;omega) (hc1 Y) (fun sv' t' hc'=>hk sv' t' ?_)
    rw [hnext];exact hc'
   conv=>whnf
   refine B8 (fun h2=>?_) (fun h2=>?_)<;>rw [h2]<;>simp only [D5C,D5B] at h2
   ·have hi:k<l.length:=by omega
    have hp:O4 l k=⟨A1q k,A5w (A2N (l.getD (k:Int).toNat default).cat),B5 (l.getD (k:Int).toNat default).price 4000,(l.getD (k:Int).toNat default).final&&k==7⟩:=by unfold O4;rw [if_pos hi];rfl
    conv=>whnf
    refine ⟨[23,25,27],[],List.range 28,by kernel_rfl,?_⟩;conv=>whnf
    refine E4 ?_
    refine cqW (B1B _ _) ?_
    refine cqW (A4T _ _) ?_
    refine E4 ?_
    refine cqW (O2 _ 4000 (by decide) (by decide) _) ?_
    refine E4 ?_
    refine B8 (fun h3=>?_) (fun h3=>?_)<;>rw [h3] at hp ⊢
    all_goals
     conv=>whnf
     refine stU (A0 ..) (A4 ..) ?_
     rw [B7];conv=>whnf
     refine stU (A0 ..) (A4 ..) ?_
     rw [B7];conv=>whnf
     refine stU (A0 ..) (A4 ..) ?_
     rw [B7];conv=>whnf
     refine I4 (A0 ..) (A4 ..) ?_
     refine hend rfl rfl (by rw [hp];first | rfl | (have e7:((k:Int)==7)=(k==7):=by rw [D8G,D6z,D6z];omega
                                                    rw [D5P,←e7];rfl)) (fun sv' t' hc'=>?_)
     conv=>whnf
     refine F6 ?_
     exact nx hk' ⟨sv',_,by rw [B4 (by omega)],hsup.upd hbb,hc'⟩
   ·have hi:¬ k<l.length:=by omega
    have hp:O4 l k=⟨A1q k,A5w k,100+37 * k,false⟩:=by unfold O4;rw [if_neg hi]
    conv=>whnf
    refine I4 (A0 ..) (A4 ..) ?_
    refine hend rfl rfl (by rw [hp];show AV.agg _=_;rw [w1];rfl) (fun sv' t' hc'=>?_);conv=>whnf
    refine F6 ?_
    exact nx hk' ⟨sv',_,by rw [B4 (by omega)],hsup.upd hbb,hc'⟩
  ·obtain rfl:k=8:=by omega
   conv=>whnf
   exact ⟨base,hsup,hc⟩
end Go.Proofs.YtaapofnkmpiknaaGreat
namespace Go.Ab
open Go
theorem S.lend {P:Program} {f:FuncId} {args args':List AV} {st:St} {q q':AV→Prop} (h:S P f args' st0 fun v s=>q v∧s=st0) (hs:A7 args st args' st0)
  (hq:∀ v c rd sz,q v→Rep rd sz v c→∃ v',q' v'∧∀ rd' sz',Rep rd' sz' v' c):S P f args st fun v s=>q' v∧s=st :=
 ⟨h.1,fun cargs w hr hS=>by
  obtain ⟨h1,h2,h3⟩:=hs w cargs hS hr
  refine (h.2 cargs w h2 h1).mono fun e w' ⟨v,c,s,⟨hqv,hs0⟩,he,hrep,hS',hE⟩=>?_
  subst hs0
  obtain ⟨v',hq',hsol⟩:=hq v c _ _ hqv hrep
  have hE2:Evo st w st w':=⟨hE.os,hE.tape,hE.output,hE.size,fun b hb hn=>⟨(hE.blk b hb rfl).1,hn⟩,hE.szm⟩
  refine ⟨v',c,st,⟨hq',rfl⟩,he,hsol _ _,fun b x hb=>?_,hE2⟩
  obtain ⟨cs,hc⟩:=hS b x hb
  have heap:=(hE.blk b (I3.lt hS hb) rfl).1
  exact ⟨cs,by rw [heap];exact hc.heap,hc.size,hc.len,hc.one,fun i j y hi hy=>by
   obtain ⟨v,hv,hr⟩:=hc.cell i j y hi hy
   exact ⟨v,hv,hE2.rep hr⟩⟩⟩
def So (y y':AV):Prop:=∀ rd sz rd' sz' c,Rep rd sz y c→Rep rd' sz' y' c
inductive SoL:List AV→List AV→Prop
 | nil:SoL [] []
 | cons {a b:AV} {l m:List AV} (h:So a b) (k:SoL l m):SoL (a::l) (b::m)
theorem SoL.len {l m:List AV} (h:SoL l m):l.length=m.length:=by
 induction h with
 | nil=>rfl
 | cons _ _ ih=>simp [ih]
theorem SoL.get {l m:List AV} (h:SoL l m):∀ (j:Nat) (y':AV),m[j]?=some y'→∃ y,l[j]?=some y∧So y y':=by
 induction h with
 | nil=>intro j y' hj;simp at hj
 | cons h k ih =>
  intro j y' hj
  cases j with
  | zero=>simp at hj;subst hj;exact ⟨_,rfl,h⟩
  | succ j=>simp at hj;simpa using ih j y' hj
theorem So.int (k:IntKind) (n:Int):So (.int k n) (.int k n):=fun _ _ _ _ c h=>by cases h;exact .int _ _
theorem So.bool (b:Bool):So (.bool b) (.bool b):=fun _ _ _ _ c h=>by cases h;exact .bool _
theorem So.str (b:ByteArray):So (.str b) (.str b):=fun _ _ _ _ c h=>by cases h;exact .str _
theorem So.junk (y:AV):So y .junk:=fun _ _ _ _ c _=>.junk c
def noA (n:Nat):AV:=.arr 0 n fun _=>.agg []
theorem So.arr (e n:Nat) (f:Nat→AV):So (.arr e n f) (noA n):=fun _ _ _ _ c h=>by
 cases h with
 | arr e n f A c g hc hA hl ho hr hg =>
  exact .arr _ _ _ A c (fun _ _=>undef) hc hA (fun i hi=>rfl) (fun i hi=>rfl) (fun a ha i j hi hj=>absurd hj (by omega)) (fun i j y hi hy=>by simp [cellsOf] at hy)
theorem So.agg {l m:List AV} (h:SoL l m):So (.agg l) (.agg m):=fun _ _ _ _ c hr=>by
 cases hr with
 | agg cs vs hl hg =>
  refine .agg _ _ (by rw [←h.len];exact hl) fun j y c hy hc=>?_
  obtain ⟨y0,h1,h2⟩:=h.get j y hy
  exact h2 _ _ _ _ _ (hg j y0 c h1 hc)
theorem So.tuple {l m:List AV} (h:SoL l m):So (.tuple l) (.tuple m):=fun _ _ _ _ c hr=>by
 cases hr with
 | tuple cs vs hl hg =>
  refine .tuple _ _ (by rw [←h.len];exact hl) fun j y c hy hc=>?_
  obtain ⟨y0,h1,h2⟩:=h.get j y hy
  exact h2 _ _ _ _ _ (hg j y0 c h1 hc)
theorem S.lends {P:Program} {f:FuncId} {args args':List AV} {st:St} {q q':AV→Prop} (h:S P f args' st0 fun v s=>q v∧s=st0) (hs:A7 args st args' st0)
  (hq:∀ v,q v→∃ v',q' v'∧So v v'):S P f args st fun v s=>q' v∧s=st :=
 S.lend h hs fun v c rd sz hv hr=>by
  obtain ⟨v',h1,h2⟩:=hq v hv
  exact ⟨v',h1,fun rd' sz'=>h2 _ _ _ _ _ hr⟩
theorem B9P (st:St):E6 st0 st:=fun b x h=>by cases h
def Le (y y':AV):Prop:=∀ rd sz c,Rep rd sz y c→Rep rd sz y' c
inductive F0:List AV→List AV→Prop
 | nil:F0 [] []
 | cons {a b:AV} {l m:List AV} (h:Le a b) (k:F0 l m):F0 (a::l) (b::m)
theorem Le.refl (y:AV):Le y y:=fun _ _ _ h=>h
theorem F0.refl:∀ l:List AV,F0 l l
 | []=>.nil
 | a::l=>.cons (Le.refl a) (F0.refl l)
theorem F0.len {l m:List AV} (h:F0 l m):l.length=m.length:=by
 induction h with
 | nil=>rfl
 | cons _ _ ih=>simp [ih]
theorem F0.get {l m:List AV} (h:F0 l m):∀ (j:Nat) (y':AV),m[j]?=some y'→∃ y,l[j]?=some y∧Le y y':=by
 induction h with
 | nil=>intro j y' hj;simp at hj
 | cons h k ih =>
  intro j y' hj
  cases j with
  | zero=>simp at hj;subst hj;exact ⟨_,rfl,h⟩
  | succ j=>simp at hj;simpa using ih j y' hj
theorem Le.emp (e:Nat) (f:Nat→AV):Le .emp (.arr e 0 f):=fun rd sz c h=>B9j e f h
theorem Le.agg {l m:List AV} (h:F0 l m):Le (.agg l) (.agg m):=fun rd sz c hr=>by
 cases hr with
 | agg cs vs hl hg =>
  refine .agg _ _ (by rw [←h.len];exact hl) fun j y c hy hc=>?_
  obtain ⟨y0,h1,h2⟩:=h.get j y hy
  exact h2 _ _ _ (hg j y0 c h1 hc)
theorem Le.arr {e n:Nat} {f g:Nat→AV} (h:∀ i,i<n→F0 (cellsOf (f i)) (cellsOf (g i))∧(cellsOf (g i)).all AV.one=true):Le (.arr e n f) (.arr e n g):=fun rd sz c hr=>by
 cases hr with
 | arr e n f A c g' hc hA hl ho hrd hg =>
  refine .arr _ _ _ A c g' hc hA (fun i hi=>by rw [←(h i hi).1.len];exact hl i hi) (fun i hi=>(h i hi).2) hrd fun i j y hi hy=>?_
  obtain ⟨y0,h1,h2⟩:=(h i hi).1.get j y hy
  exact h2 _ _ _ (hg i j y0 hi h1)
theorem Le.arr1 {e:Nat} {f g:Nat→AV} (h:F0 (cellsOf (f 0)) (cellsOf (g 0))) (h1:(cellsOf (g 0)).all AV.one=true):Le (.arr e 1 f) (.arr e 1 g):=Le.arr fun i hi=>by
 obtain rfl:i=0:=by omega
 exact ⟨h,h1⟩
theorem Le.shift {v v':AV} (h:Le v v') (st:St):A7 [v] st [v'] st:=A7.one fun w c hS hr=>⟨hS,Evo.refl _ _,h _ _ _ hr⟩
end Go.Ab
namespace Go.Proofs.YtaapofnkmpiknaaGreat
open Go Go.Ab
def A9c (t:Tax) (rate:Int):Int:=10000+(if t.incl=true then rate else 0)
def N8 (t:Tax) (x rate:Int):Int:=(W5 x rate (A9c t rate) t.round).1
theorem C1u {q r den round x:Int} (h:q * den+r≤x * den) (h0:0≤r) (h1:r<den):q≤x∧S8 q r den round≤x:=by
 have hq:q≤x:=by
  rcases Int.lt_or_le x q with e | e
  ·have:(x+1) * den≤q * den:=D7z (by omega) (by omega)
   rw [D8g,Int.one_mul] at this;omega
  ·exact e
 refine ⟨hq,?_⟩
 by_cases e:q=x
 ·subst e
  have hr:r=0:=by omega
  subst hr
  unfold S8
  split
  ·omega
  ·split
   ·split<;>omega
   ·split
    ·rename_i h2;omega
    ·omega
 ·unfold S8
  split
  ·omega
  ·split<;>split<;>omega
theorem C1t {q r den round:Int} (h:0≤q):0≤S8 q r den round:=by
 unfold S8
 split
 ·omega
 ·split<;>split<;>omega
theorem C4F {x num den round:Int} (hx:0≤x) (hn:0≤num) (hd:num≤den) (h0:0<den):0≤(W5 x num den round).1∧(W5 x num den round).1≤x:=by
 have h1:0≤x * num:=D7a hx hn
 have h2:x * num≤x * den:=D6x hd hx
 have e1:=D6K (x * num) den
 have e2:=D6X (x * num) (show den≠0 by omega)
 have e3:=D6L (x * num) h0
 have e4:0≤x * num / den:=D7h h1 (by omega)
 have h3:=C1u (q:=x * num / den) (r:=x * num % den) (den:=den) (round:=round) (x:=x) (by rw [D7Q (x * num / den) den];omega) e2 e3
 have h4:=C1t (q:=x * num / den) (r:=x * num % den) (den:=den) (round:=round) e4
 unfold W5
 split
 ·exact ⟨D6j _,hx⟩
 ·split
  ·exact ⟨D6j _,hx⟩
  ·split
   ·exact ⟨D6j _,hx⟩
   ·exact ⟨h4,h3.2⟩
theorem A2W {t:Tax} {x rate:Int} (hx:0≤x) (hr:0≤rate∧rate≤10000):0≤N8 t x rate∧N8 t x rate≤x:=by
 refine C4F hx hr.1 ?_ ?_
 ·unfold A9c;split<;>omega
 ·unfold A9c;split<;>omega
def A0a (l:List K7) (s:C8):Option K7:=l.find? fun z=>z.name.toList==s.toList
def E9 (z:K7) (c:C8):Int:=match z.rates.find? (fun x=>x.cat.toList==c.toList) with
 | some x=>x.rate
 | none=>z.rest
theorem A4F {z:K7} (h:Y3 z=true):(0≤z.rest∧z.rest≤10000)∧(0≤z.ship∧z.ship≤10000)∧z.rates.length≤40∧∀ x∈z.rates,0≤x.rate∧x.rate≤10000:=by
 unfold Y3 at h
 simp only [D5G,D5Q,D6P,D5B,D6g] at h
 obtain ⟨⟨⟨⟨h1,h2⟩,h3⟩,h4⟩,h5,h6⟩:=h
 refine ⟨F4.1 h2,F4.1 h3,by omega,fun x hx=>?_⟩
 obtain ⟨k,hk,rfl⟩:=D3 hx
 have:=A4l.1 h5 k hk
 unfold A4x at this
 simp only [D5Q,D6P,D6g] at this
 exact F4.1 this.2
theorem B6y {z:K7} (h:Y3 z=true) (c:C8):0≤E9 z c∧E9 z c≤10000:=by
 obtain ⟨h1,h2,h3,h4⟩:=A4F h
 unfold E9
 split
 ·rename_i x hx;exact h4 x (D7Z hx)
 ·exact h1
def X1 (t:Tax) (rates nets:List Int):List Int:=(List.range nets.length).map fun i=>N8 t (gI nets i) (gI rates i)
def A8o (rates:List Int) (i:Nat):List Nat:=(List.range rates.length).filter fun k=>gI rates k==gI rates i
def I7 (rates nets:List Int) (i:Nat):List Int:=(A8o rates i).map (gI nets)
def A0D (rates:List Int) (i:Nat):Nat:=((List.range i).filter fun k=>gI rates k==gI rates i).length
def A1L (t:Tax) (rates nets:List Int) (i:Nat):Int:=gI (D2 (N8 t (A2 (I7 rates nets i)) (gI rates i)) (I7 rates nets i)) (A0D rates i)
def G9 (t:Tax) (rates nets:List Int):List Int:=(List.range nets.length).map (A1L t rates nets)
def L0 (t:Tax) (rates nets:List Int):List Int:=if t.byOrder=true then G9 t rates nets else X1 t rates nets
structure A4J (nets:List Int):Prop where
 len:nets.length≤1000
 pos:∀ x∈nets,0≤x
 sum:A2 nets≤10000000000000
theorem B2n {a b:List Int} (hs:a.Sublist b) (hb:∀ x∈b,0≤x):A2 a≤A2 b:=by
 induction hs with
 | slnil=>exact D6j _
 | cons x _ ih =>
  have h1:=ih fun u hu=>hb u (D6a _ hu)
  have h2:=hb x (D6c ..)
  rw [J5];omega
 | cons_cons x _ ih =>
  have h1:=ih fun u hu=>hb u (D6a _ hu)
  rw [J5,J5];omega
theorem A6h (l:List Int):(List.range l.length).map (gI l)=l:=by
 refine D8i (by rw [D5F,D6d]) fun i h1 h2=>?_
 rw [List.getElem_map,List.getElem_range];unfold gI;rw [D5A,D5I h2];rfl
theorem A5W {rates nets:List Int} (hn:A4J nets) (hr:rates.length=nets.length) (i:Nat):(I7 rates nets i).length≤1000∧(∀ x∈I7 rates nets i,0≤x)∧0≤A2 (I7 rates nets i)∧A2 (I7 rates nets i)≤10000000000000:=by
 have hsub:(I7 rates nets i).Sublist nets:=by
  have h1:(I7 rates nets i).Sublist ((List.range nets.length).map (gI nets)):=by
   unfold I7 A8o
   rw [hr]
   exact D7C.map _
  rw [A6h] at h1;exact h1
 have hp:∀ x∈I7 rates nets i,0≤x:=fun x hx=>hn.pos x (hsub.subset hx)
 have h2:=hsub.length_le
 have h3:=hn.len
 have h4:=B2n hsub hn.pos
 have h5:=hn.sum
 exact ⟨by omega,hp,C1 hp,by omega⟩
theorem A2V {t:Tax} {rates nets:List Int} (hn:A4J nets) (hr:rates.length=nets.length) {i:Nat} (hq:0≤gI rates i∧gI rates i≤10000):R4 (N8 t (A2 (I7 rates nets i)) (gI rates i)) (I7 rates nets i):=by
 obtain ⟨h1,h2,h3,h4⟩:=A5W hn hr i
 have hm:=A2W (t:=t) h3 hq
 exact ⟨hm.1,by omega,by omega,h2,by omega,fun e=>by rw [e] at hm;rw [e];omega⟩
theorem C1n {n i:Nat} (hi:i<n):List.range n=List.range i++(i::(List.range (n - i - 1)).map (fun k=>i+1+k)):=by
 have h1:n=i+(1+(n - i - 1)):=by omega
 conv=>lhs;rw [h1]
 rw [List.range_add,show 1+(n - i - 1)=(n - i - 1)+1 by omega,List.range_succ_eq_map]
 simp only [D6I,D8a,D7U]
 congr 2
 refine D6S fun k _=>?_
 show i+(k+1)=i+1+k
 omega
theorem A8p {rates:List Int} {i:Nat} (hi:i<rates.length):(A8o rates i)[A0D rates i]?=some i:=by
 unfold A0D A8o
 rw [C1n hi,D7x,D5Y (D5J _),Nat.sub_self,D6G (by simp)];rfl
theorem B1o {rates:List Int} {i:Nat} (hi:i<rates.length):A0D rates i<(A8o rates i).length:=by
 exact (D5S.1 (A8p hi)).1
theorem B6c {t:Tax} {rates nets:List Int} (hn:A4J nets) (hr:rates.length=nets.length) (hq:∀ x∈rates,0≤x∧x≤10000) {i:Nat} (hi:i<nets.length):0≤A1L t rates nets i∧A1L t rates nets i≤10000000000000:=by
 have hqi:=hq (gI rates i) (A6 (by omega))
 have hw:=A2V (t:=t) hn hr hqi
 obtain ⟨h1,h2,h3,h4⟩:=A5W hn hr i
 have hm:=A2W (t:=t) h3 hqi
 have hp:=B1o (rates:=rates) (i:=i) (by omega)
 have hml:(I7 rates nets i).length=(A8o rates i).length:=D5F ..
 obtain ⟨l1,l2,l3⟩:=T4 hw
 have hle:=A3q hw hm.2 (k:=A0D rates i) (by omega)
 have hg:gI (D2 (N8 t (A2 (I7 rates nets i)) (gI rates i)) (I7 rates nets i)) (A0D rates i)∈D2 (N8 t (A2 (I7 rates nets i)) (gI rates i)) (I7 rates nets i):=A6 (by omega)
 have h0:=l3 _ hg
 have hmem:gI (I7 rates nets i) (A0D rates i)∈I7 rates nets i:=A6 (by omega)
 have h6:=J2 h2 hmem
 unfold A1L
 omega
theorem A6q {t:Tax} {rates nets:List Int} (hn:A4J nets) (hr:rates.length=nets.length) (hq:∀ x∈rates,0≤x∧x≤10000):(L0 t rates nets).length=nets.length∧∀ x∈L0 t rates nets,0≤x∧x≤10000000000000:=by
 unfold L0
 split
 ·refine ⟨by unfold G9;rw [D5F,D6d],fun x hx=>?_⟩
  obtain ⟨i,hi,rfl⟩:=D5X.1 hx
  exact B6c hn hr hq (D5U.1 hi)
 ·refine ⟨by unfold X1;rw [D5F,D6d],fun x hx=>?_⟩
  obtain ⟨i,hi,rfl⟩:=D5X.1 hx
  have hi:=D5U.1 hi
  have h1:=hn.pos _ (show gI nets i∈nets from A6 hi)
  have h2:=A2W (t:=t) h1 (hq (gI rates i) (A6 (by omega)))
  have h3:=J2 hn.pos (show gI nets i∈nets from A6 hi)
  have h4:=hn.sum
  omega
theorem B6b {t:Tax} {rates nets:List Int} (hn:A4J nets) (hr:rates.length=nets.length) (hq:∀ x∈rates,0≤x∧x≤10000) {i:Nat} (hi:i<nets.length):A1L t rates nets i≤gI nets i:=by
 have hqi:=hq (gI rates i) (A6 (by omega))
 have hw:=A2V (t:=t) hn hr hqi
 obtain ⟨h1,h2,h3,h4⟩:=A5W hn hr i
 have hm:=A2W (t:=t) h3 hqi
 have hp:=B1o (rates:=rates) (i:=i) (by omega)
 have hml:(I7 rates nets i).length=(A8o rates i).length:=D5F ..
 have hle:=A3q hw hm.2 (k:=A0D rates i) (by omega)
 have e:gI (I7 rates nets i) (A0D rates i)=gI nets i:=by
  unfold I7 gI
  rw [D5A,D6y,A8p (by omega)];rfl
 rw [e] at hle
 exact hle
theorem B6Y {t:Tax} {rates nets:List Int} (hn:A4J nets) (hr:rates.length=nets.length) (hq:∀ x∈rates,0≤x∧x≤10000) {i:Nat} (hi:i<nets.length):gI (L0 t rates nets) i≤gI nets i:=by
 unfold L0
 split
 ·have e:gI (G9 t rates nets) i=A1L t rates nets i:=by unfold G9 gI;rw [D5A,D6y,D7e hi];rfl
  rw [e];exact B6b hn hr hq hi
 ·have e:gI (X1 t rates nets) i=N8 t (gI nets i) (gI rates i):=by unfold X1 gI;rw [D5A,D6y,D7e hi];rfl
  rw [e]
  exact (A2W (hn.pos _ (show gI nets i∈nets from A6 hi)) (hq (gI rates i) (A6 (by omega)))).2
theorem A6o (f g:Nat→Int):∀ n,(∀ i,i<n→f i≤g i)→A2 ((List.range n).map f)≤A2 ((List.range n).map g)
 | 0,_=>D6j _
 | n+1,h=>by
  rw [L7,L7]
  have h1:=A6o f g n fun i hi=>h i (by omega)
  have h2:=h n (by omega)
  omega
structure B7j where
 goods:List Int
 taxes:List Int
 ship:Int
 shipTax:Int
def A2D (t:Tax) (taxes nets:List Int):List Int:=(List.range nets.length).map fun i=>if t.incl=true then gI nets i - gI taxes i else gI nets i
def L5 (t:Tax) (z:K7) (exempt:Bool) (cats:List C8) (nets:List Int) (ship:Int):B7j :=
 ⟨A2D t (L0 t (cats.map (E9 z)) nets) nets,if exempt=true then List.replicate nets.length 0 else L0 t (cats.map (E9 z)) nets,
 if t.incl=true then ship - N8 t ship z.ship else ship,if exempt=true then 0 else N8 t ship z.ship⟩
structure A0S where
 goods:List Int
 taxes:List Int
 ship:Int
 shipTax:Int
 total:Int
 deals:List A1T
end Go.Proofs.YtaapofnkmpiknaaGreat
namespace Go.Proofs.YtaapofnkmpiknaaGreat
open Go Go.Ab
attribute [local irreducible] upd del
def A5S (l:List Int) (out:List Int) (i:Nat):List Int:=if (out.any fun y=>y==1+B5 (gI l i) 5)=true then out else out++[1+B5 (gI l i) 5]
def Q8 (l:List Int) (n:Nat):List Int:=(List.range n).foldl (A5S l) []
theorem A5T (l:List Int) (n:Nat):Q8 l (n+1)=A5S l (Q8 l n) n:=by unfold Q8;rw [D7i,D7P];rfl
theorem B1j (l:List Int) (n:Nat):(Q8 l n).length≤n:=by
 induction n with
 | zero=>exact D5J _
 | succ n ih =>
  rw [A5T];unfold A5S
  split
  ·omega
  ·rw [D5M];show _+1≤_;omega
def O5 (l:List Int):List Int:=Q8 l (min l.length 6)
theorem B2I (l:List Int) (k:Int) (j:Nat) (hj:j<l.length):((l.take (j+1)).any fun y=>y==k)=((l.take j).any (fun y=>y==k)||(gI l j==k)):=by
 rw [K6 hj,List.any_append];simp
theorem A9P (l:List Int) (st:St):S P 103 [B0 l] st fun v st'=>v=B0 (O5 l)∧st'=st:=by
 refine A0M (ty:=3) ?_
 refine F1 [] Tryz.func103 ?_
 refine lp (min l.length 6) [0,3,4] (fun i vs s=>∃ sv,vs=[B0 l,sv,eI i]∧E1 3 1 eI (Q8 l i) st sv s) ?_ ?_
 ·conv=>whnf
  exact ⟨.emp,rfl,E1.start _ _ _ _⟩
 ·rintro i vs s hi ⟨sv,rfl,hc⟩
  have hlen:=B1j l i
  have hfin:i=min l.length 6→E1 3 1 eI (O5 l) st sv s:=fun e=>by unfold O5;rw [←e];exact hc
  conv=>whnf
  refine B8 (fun h1=>?_) (fun h1=>?_)<;>rw [h1]<;>simp only [D5C,D5B] at h1
  ·conv=>whnf
   refine B8 (fun h2=>?_) (fun h2=>?_)<;>rw [h2]<;>simp only [D5C,D5B] at h2
   ·have hi':i<min l.length 6:=by omega
    have hK:=A5T l i
    unfold A5S at hK
    have hm:=C7 (gI l (i:Int).toNat) (n:=5) (by decide)
    have hw:IntKind.i64.wrap (1+B5 (gI l (i:Int).toNat) 5)=1+B5 (gI l i) 5:=A5 (by omega) (by omega)
    conv=>whnf
    refine E4 ?_
    refine I2 (Z8 _ 5 (by decide) (by decide) _) ?_
    rw [hw]
    generalize hkk:1+B5 (gI l i) 5=k at hK
    have hcases:(sv=.emp∧Q8 l i=[])∨∃ b g,sv=.own 1 b 0 (Q8 l i).length∧s b=some ⟨3,1,(Q8 l i).length,g⟩∧∀ j,j<(Q8 l i).length→g j=eI (gI (Q8 l i) j):=by
     rcases hc with ⟨h0,h3,_⟩ | ⟨_,b,g,_,h3,h4,h5⟩
     ·exact .inl ⟨h3,D6k h0⟩
     ·exact .inr ⟨b,g,h3,by rw [h4];exact A0 ..,h5⟩
    refine lp (Q8 l i).length [0,3,4,5,6,7] (fun j vs t=>vs=[B0 l,sv,eI i,eI k,eB (((Q8 l i).take j).any fun y=>y==k),eI j]∧t=s) ?_ ?_
    ·conv=>whnf
     exact ⟨rfl,rfl⟩
    ·rintro j vs t hj ⟨rfl,rfl⟩
     rcases hcases with ⟨rfl,hnil⟩ | ⟨b,g,rfl,hb,hg⟩
     ·have hj0:j=0:=by rw [hnil] at hj;exact Nat.le_zero.1 hj
      subst hj0
      have hK2:Q8 l (i+1)=Q8 l i++[k]:=by rw [hK,if_neg (by rw [hnil];simp)]
      conv=>whnf
      refine E1.app (q:=r3) rfl rfl rfl rfl rfl (by rfl) (by show ((Q8 l i).length+1) * 8≤140737488355328;omega) hc (fun sv' t' hc'=>?_);conv=>whnf
      refine F6 ?_
      exact nx hi' ⟨sv',by rw [B4 (by omega)],by rw [hK2];exact hc'⟩
     ·conv=>whnf
      cases h3:decide ((j:Int)<((Q8 l i).length:Int))
      ·obtain rfl:=C2 h3 hj
       conv=>whnf
       rw [D5L]
       cases h4:(Q8 l i).any fun y=>y==k
       ·rw [if_neg (by rw [h4];simp)] at hK;conv=>whnf
        refine E1.app (q:=r3) rfl rfl rfl rfl rfl (by rfl) (by show ((Q8 l i).length+1) * 8≤140737488355328;omega) hc (fun sv' t' hc'=>?_);conv=>whnf
        refine F6 ?_
        exact nx hi' ⟨sv',by rw [B4 (by omega)],by rw [hK];exact hc'⟩
       ·rw [if_pos h4] at hK;conv=>whnf
        refine F6 ?_
        exact nx hi' ⟨_,by rw [B4 (by omega)],by rw [hK];exact hc⟩
      ·have hj':=D6 h3
       have hsucc:=B2I (Q8 l i) k j hj'
       conv=>whnf
       cases h4:((Q8 l i).take j).any fun y=>y==k
       ·rw [h4,D6o] at hsucc;conv=>whnf
        refine E4 ?_
        refine ldV hb rfl (by omega) (v:=eI (gI (Q8 l i) (j:Int).toNat)) (by rw [D5R];exact hg _ (by omega)) ?_;conv=>whnf
        refine F6 ?_
        refine nx hj' ⟨?_,rfl⟩
        rw [B4 (by omega),hsucc];rfl
       ·rw [h4,D6v] at hsucc;conv=>whnf
        refine F6 ?_
        refine nx hj' ⟨?_,rfl⟩
        rw [B4 (by omega),hsucc]
   ·conv=>whnf
    exact hfin (by omega)
  ·conv=>whnf
   exact hfin (by omega)
def B1G (x:A0V) (least:Int):A0V:=⟨least,B5 x.rate 4000,1+B5 x.amount 300⟩
def Q4 (l:List A0V) (step:Int):Nat→List A0V×Int
 | 0=>([],0)
 | i+1=>((Q4 l step i).1++[B1G (l.getD i default) ((Q4 l step i).2+B5 (l.getD i default).least step)],(Q4 l step i).2+B5 (l.getD i default).least step+1)
theorem A7M (l:List A0V) (step:Int) (i:Nat):(Q4 l step i).1.length=i:=by
 induction i with
 | zero=>rfl
 | succ i ih=>show (_++[_]).length=_;rw [D5M,ih];rfl
theorem A8M (l:List A0V) {step:Int} (h:0<step) (i:Nat):0≤(Q4 l step i).2∧(Q4 l step i).2≤i * step:=by
 induction i with
 | zero=>exact ⟨D6j _,by show (0:Int)≤((0:Nat):Int) * step;rw [Int.natCast_zero,D8A];omega⟩
 | succ i ih =>
  have hm:=C7 (l.getD i default).least h
  show 0≤(Q4 l step i).2+B5 (l.getD i default).least step+1∧(Q4 l step i).2+B5 (l.getD i default).least step+1≤_
  rw [show ((i+1:Nat):Int) * step=i * step+step by rw [Int.natCast_add,D8g];simp]
  omega
def P6 (l:List A0V) (step:Int):List A0V:=if l.length=0 then [⟨Int.tdiv step 2,1000,0⟩] else (Q4 l step (min l.length 3)).1
theorem A9Q (l:List A0V) (step:Int) (h0:0<step) (h1:step≤5000) (st:St):S P 209 [A8 3 R9 l,eI step] st fun v st'=>v=A8 3 R9 (P6 l step)∧st'=st:=by
 refine A0M (ty:=300) ?_
 refine F1 [] Tryz.func209 ?_
 refine lp (min l.length 3) [0,1,5,6,7] (fun i vs s=>∃ sv,vs=[A8 3 R9 l,eI step,sv,eI (Q4 l step i).2,eI i]∧E1 300 3 R9 (Q4 l step i).1 st sv s) ?_ ?_
 ·conv=>whnf
  exact ⟨.emp,rfl,E1.start _ _ _ _⟩
 ·rintro i vs s hi ⟨sv,rfl,hc⟩
  have hlen:=A7M l step i
  have hle:=A8M l h0 i
  have hip:(i:Int) * step≤3 * 5000:=D7Y (by omega) h1 (by omega) (by omega)
  have hsv:(i=0∧sv=.emp)∨(0<i∧∃ b,sv=.own 3 b 0 i):=by
   rcases hc with ⟨h2,h3,_⟩ | ⟨h2,b,_,_,h3,_⟩
   ·exact .inl ⟨by omega,h3⟩
   ·exact .inr ⟨by omega,b,by rw [h3,hlen]⟩
  have hw2:IntKind.i64.wrap (Int.tdiv step 2)=Int.tdiv step 2:=by
   rw [D6V (by omega)]
   exact A5 (by omega) (by omega)
  conv=>whnf
  refine B8 (fun h2=>?_) (fun h2=>?_)<;>rw [h2]<;>simp only [D5C,D5B] at h2
  case' refine_1 =>
   conv=>whnf
   refine B8 (fun h3=>?_) (fun h3=>?_)<;>rw [h3]<;>simp only [D5C,D5B] at h3
  case refine_1.refine_1 =>
   have hi':i<min l.length 3:=by omega
   have hm:=C7 (l.getD (i:Int).toNat default).least h0
   have hm2:=C7 (l.getD (i:Int).toNat default).amount (n:=300) (by decide)
   have e1:IntKind.i64.wrap ((Q4 l step i).2+B5 (l.getD (i:Int).toNat default).least step)=(Q4 l step i).2+B5 (l.getD (i:Int).toNat default).least step:=A5 (by omega) (by omega)
   have e2:IntKind.i64.wrap (1+B5 (l.getD (i:Int).toNat default).amount 300)=1+B5 (l.getD (i:Int).toNat default).amount 300:=A5 (by omega) (by omega)
   have e3:IntKind.i64.wrap ((Q4 l step i).2+B5 (l.getD (i:Int).toNat default).least step+1)=(Q4 l step i).2+B5 (l.getD (i:Int).toNat default).least step+1:=A5 (by omega) (by omega)
   conv=>whnf
   refine E4 ?_
   refine I2 (O2 _ step h0 (by omega) _) ?_
   rw [e1]
   refine ⟨[16,17],[],List.range 19,by kernel_rfl,?_⟩;conv=>whnf
   refine E4 ?_
   refine cqW (O2 _ 4000 (by decide) (by decide) _) ?_
   refine E4 ?_
   refine cqW (O2 _ 300 (by decide) (by decide) _) ?_
   rw [e2]
   refine E1.app (y:=B1G (l.getD (i:Int).toNat default) ((Q4 l step i).2+B5 (l.getD (i:Int).toNat default).least step)) (q:=C6m) rfl rfl rfl rfl rfl (by rfl) (by show ((Q4 l step i).1.length+1) * 24≤140737488355328;omega) hc (fun sv' t' hc'=>?_);conv=>whnf
   rw [e3]
   refine F6 ?_
   exact nx hi' ⟨sv',by rw [B4 (by omega)];rfl,hc'⟩
  all_goals
   have hie:i=min l.length 3:=by omega
   conv=>whnf
   rcases hsv with ⟨rfl,rfl⟩ | ⟨hp,b,rfl⟩
   ·have hl0:l.length=0:=by omega
    have hT:P6 l step=[⟨Int.tdiv step 2,1000,0⟩]:=by unfold P6;rw [if_pos hl0]
    rw [hT];conv=>whnf
    refine E1.app (y:=⟨Int.tdiv step 2,1000,0⟩) (q:=C6m) rfl rfl rfl rfl rfl (by show AV.agg [eI (IntKind.i64.wrap (Int.tdiv step 2)),eI 1000,eI 0]=_;rw [hw2];rfl) (by show (0+1) * 24≤140737488355328;omega) hc (fun sv' t' hc'=>?_);conv=>whnf
    exact hc'
   ·have hT:P6 l step=(Q4 l step i).1:=by unfold P6;rw [if_neg (by omega),hie]
    rw [hT];conv=>whnf
    rw [show ((i:Int)==0)=false by rw [D6l];omega];conv=>whnf
    exact hc
theorem B6O (l:List C8) (most:Nat) (kinds:Int) (name:Int→C8) (k:Nat):∃ ks:List Nat,S9 l most kinds name k=ks.map (fun x:Nat=>name x)∧ks.Pairwise (·<·)∧(∀ x∈ks,x<k)∧ks.length≤most:=by
 induction k with
 | zero=>exact ⟨[],rfl,.nil,⟨fun x hx=>absurd hx D7f,D6b _⟩⟩
 | succ k ih =>
  obtain ⟨ks,h1,h2,h3,h4⟩:=ih
  rw [A6m];unfold A6l
  split
  ·rename_i hc
   rw [D5G,D5C,h1,D5F] at hc
   refine ⟨ks++[k],by rw [h1,D6i];rfl,List.pairwise_append.2 ⟨h2,List.pairwise_singleton _ _,fun a ha b hb=>by rw [D6f] at hb;subst hb;exact h3 a ha⟩,fun x hx=>?_,by rw [D5M];show ks.length+1≤most;omega⟩
   rcases D6Q.1 hx with h | h
   ·have:=h3 x h;omega
   ·rw [D6f] at h;omega
  ·exact ⟨ks,h1,h2,fun x hx=>by have:=h3 x hx;omega,h4⟩
theorem A7z {l:List C8} {most:Nat} {kinds:Int} {name:Int→C8} {k:Nat} (hn:∀ x:Nat,x<k→D1 (name x)=true) (hr:∀ x y:Nat,x<y→y<k→slt (name x) (name y)=true):A0R (S9 l most kinds name k)=true∧(S9 l most kinds name k).length≤most∧∀ s∈S9 l most kinds name k,s.size≤12:=by
 obtain ⟨ks,h1,h2,h3,h4⟩:=B6O l most kinds name k
 rw [h1]
 have hall:∀ s∈ks.map (fun x:Nat=>name x),D1 s=true:=fun s hs=>by
  obtain ⟨x,hx,rfl⟩:=D5X.1 hs;exact hn x (h3 x hx)
 refine ⟨?_,by rw [D5F];exact h4,fun s hs=>?_⟩
 ·unfold A0R
  rw [D5G,D5Q,D6F]
  refine ⟨?_,fun s hs=>by rw [hall s hs];simp⟩
  unfold A0s
  rw [D5V]
  intro j hj
  have hj:=D5U.1 hj
  rw [D5F] at hj
  unfold P0
  rw [D6H,D6z]
  by_cases e:j=0
  ·exact .inl e
  ·refine .inr ?_
   have g:∀ i,i<ks.length→(ks.map (fun x:Nat=>name x)).getD i default=name (ks.getD i 0:Nat):=fun i hi=>by
    rw [D5A,D6y,D5I hi,D5A,D5I hi];rfl
   rw [g _ (by omega),g _ hj]
   have gm:∀ i,i<ks.length→ks.getD i 0=ks[i]!:=fun i hi=>by rw [D5A,D5I hi,getElem!_pos ks i hi];rfl
   refine hr _ _ ?_ (h3 _ ?_)
   ·rw [gm _ (by omega),gm _ hj,getElem!_pos ks _ (by omega),getElem!_pos ks _ hj]
    exact D7j.1 h2 _ _ (by omega) hj (by omega)
   ·rw [gm _ hj,getElem!_pos ks _ hj];exact D6Z _
 ·have:=hall s hs
  unfold D1 at this
  simp only [D5G,D5C] at this
  exact this.1.2
theorem C1A:((List.range 8).all fun x=>D1 (A1q (x:Nat)))=true:=by kernel_rfl
theorem C4o:((List.range 8).all fun y=>(List.range y).all fun x=>slt (A1q (x:Nat)) (A1q (y:Nat)))=true:=by kernel_rfl
theorem C0k:((List.range 3).all fun x=>D1 (A5w (x:Nat)))=true:=by kernel_rfl
theorem C2I:((List.range 3).all fun y=>(List.range y).all fun x=>slt (A5w (x:Nat)) (A5w (y:Nat)))=true:=by kernel_rfl
theorem B7t:((List.range 3).all fun x=>D1 (A5o (x:Nat)))=true:=by kernel_rfl
theorem C0r:((List.range 3).all fun y=>(List.range y).all fun x=>slt (A5o (x:Nat)) (A5o (y:Nat)))=true:=by kernel_rfl
theorem B4P {name:Int→C8} {k:Nat} (h:((List.range k).all fun y=>(List.range y).all fun x=>slt (name (x:Nat)) (name (y:Nat)))=true) (x y:Nat) (hxy:x<y) (hy:y<k):slt (name x) (name y)=true :=
 D5V.1 (D5V.1 h y (D5U.2 hy)) x (D5U.2 hxy)
theorem B4w {name:Int→C8} {k:Nat} (h:((List.range k).all fun x=>D1 (name (x:Nat)))=true) (x:Nat) (hx:x<k):D1 (name x)=true:=D5V.1 h x (D5U.2 hx)
theorem A2X (s:W1):A0t (Q2 s)=true∧A2g (Q2 s):=by
 obtain ⟨a1,a2,a3⟩:=A7z (l:=s.skus) (most:=3) (kinds:=8) (name:=A1q) (k:=8) (B4w C1A) (B4P C4o)
 obtain ⟨b1,b2,b3⟩:=A7z (l:=s.cats) (most:=2) (kinds:=3) (name:=A5w) (k:=3) (B4w C0k) (B4P C2I)
 unfold Q2
 generalize S9 s.skus 3 8 A1q 8=A at a1 a2 a3 ⊢
 generalize S9 s.cats 2 3 A5w 3=B at b1 b2 b3 ⊢
 refine ⟨?_,?_⟩
 ·unfold A0t
  rw [a1,b1,D6m (show A.length≤20 by omega),D6m (show B.length≤20 by omega)];rfl
 ·exact ⟨by show A.length≤_;omega,by show B.length≤_;omega,fun x hx=>by have:=a3 x hx;show x.size≤_;omega,fun x hx=>by have:=b3 x hx;show x.size≤_;omega⟩
theorem B4H (l:List C8):S6 (J4 l)=true∧(J4 l).length≤3∧∀ s∈J4 l,s.size≤12:=by
 obtain ⟨a1,a2,a3⟩:=A7z (l:=l) (most:=3) (kinds:=3) (name:=A5o) (k:=3) (B4w B7t) (B4P C0r)
 unfold J4
 generalize S9 l 3 3 A5o 3=A at a1 a2 a3 ⊢
 refine ⟨?_,a2,a3⟩
 unfold A0R at a1
 rw [D5G] at a1
 unfold S6
 rw [a1.1,a1.2,D6m (by omega)];rfl
theorem C9k (n:Int):B5 n 8=0∨B5 n 8=1∨B5 n 8=2∨B5 n 8=3∨B5 n 8=4∨B5 n 8=5∨B5 n 8=6∨B5 n 8=7:=by
 have:=C7 n (n:=8) (by decide);omega
theorem C4m (k:Nat) (h:k<8):A1q k=Z4 (97+k):=by
 unfold A1q B5;congr 2;omega
theorem B3L (l:List Ab.Item):(G2 l).map Ab.Item.sku=[Z4 97,Z4 98,Z4 99,Z4 100,Z4 101,Z4 102,Z4 103,Z4 104]:=by
 unfold G2
 rw [D8a]
 have e:∀ k,k<8→(Ab.Item.sku ∘ O4 l) k=Z4 (97+(k:Int)):=fun k hk=>by
  rw [←C4m k hk]
  show (O4 l k).sku=_
  unfold O4;split<;>rfl
 have:(List.range 8).map (Ab.Item.sku ∘ O4 l)=(List.range 8).map fun k:Nat=>Z4 (97+(k:Int)):=D6S fun k hk=>e k (D5U.1 hk)
 rw [this];rfl
theorem A2i (l:List Ab.Item):(G2 l).length=8:=by unfold G2;rw [D5F,D6d]
theorem C0H (items:List Ab.Item) (s:C8):known items s=(items.map Ab.Item.sku).any fun y=>y.toList==s.toList:=by
 unfold known P2
 rw [A1E,List.any_map];rfl
theorem A7w (l:List Ab.Item) (n:Int):known (G2 l) (A1q n)=true:=by
 rw [C0H,B3L]
 unfold A1q
 rcases C9k n with h | h | h | h | h | h | h | h<;>rw [h]<;>kernel_rfl
theorem B6l (x:E7):(0≤(A6e x).qty∧(A6e x).qty≤9)∧0≤(A6e x).price∧(A6e x).price<4000:=by
 have h1:=C7 x.qty (n:=10) (by decide)
 have h2:=C7 x.price (n:=4000) (by decide)
 exact ⟨⟨h1.1,by show B5 x.qty 10≤9;omega⟩,h2.1,h2.2⟩
structure A2k (l:List E7):Prop where
 len:l.length≤8
 line:∀ x∈l,(0≤x.qty∧x.qty≤9)∧0≤x.price∧x.price<4000
 sku:∀ x∈l,∃ n,x.sku=A1q n
theorem B4I (l:List E7):A2k (A6M l):=by
 unfold A6M
 refine ⟨by rw [D5F,D5K];omega,fun x hx=>?_,fun x hx=>?_⟩
 ·obtain ⟨y,_,rfl⟩:=D5X.1 hx;exact B6l y
 ·obtain ⟨y,_,rfl⟩:=D5X.1 hx;exact ⟨A2N y.sku,rfl⟩
theorem A2k.lineC {l:List E7} (h:A2k l) {x:E7} (hx:x∈l):lineC x=true:=by
 have:=h.line x hx
 rw [A0C];omega
theorem B9O {l:List E7} (h1:∀ x∈l,(0≤x.qty∧x.qty≤9)∧0≤x.price∧x.price<4000):(0≤L9 l∧L9 l≤9 * l.length)∧0≤J6 l∧J6 l≤36000 * l.length:=by
 have:∀ (l:List E7) (a b:Int),(∀ x∈l,(0≤x.qty∧x.qty≤9)∧0≤x.price∧x.price<4000)→(a≤l.foldl (fun s x=>s+x.qty) a∧l.foldl (fun s x=>s+x.qty) a≤a+9 * l.length)∧b≤l.foldl (fun s x=>s+x.qty * x.price) b∧l.foldl (fun s x=>s+x.qty * x.price) b≤b+36000 * l.length:=by
  intro l
  induction l with
  | nil=>intro a b _;simp
  | cons y l ih =>
   intro a b h
   have hy:=h y (D6c ..)
   have h0:0≤y.qty * y.price:=D7a hy.1.1 hy.2.1
   have h9:y.qty * y.price≤9 * 4000:=D7Y hy.1.2 (by omega) hy.2.1 (by omega)
   have:=ih (a+y.qty) (b+y.qty * y.price) fun x hx=>h x (D6a _ hx)
   rw [D6W,D6W,D6n]
   omega
 have:=this l 0 0 h1
 unfold L9 J6;omega
theorem B7F {kn:C8→Bool} {l:List E7} (h:∀ x∈l,kn x.sku=true∧lineC x=true):l.find? (K2 kn)=none:=by
 rw [D8f]
 intro x hx
 unfold K2
 rw [(h x hx).1,(h x hx).2];simp
theorem A2k.check {l:List E7} (h:A2k l) {kn:C8→Bool} (hk:∀ n,kn (A1q n)=true):O8 kn l=0:=by
 unfold O8
 have hl:=h.len
 have hs:=B9O h.line
 rw [if_neg (by omega),B7F fun x hx=>⟨by obtain ⟨n,hn⟩:=h.sku x hx;rw [hn];exact hk n,h.lineC hx⟩]
 show (if _ then (5:Int) else 0)=0
 rw [if_neg]
 rw [D5H (by omega),D5H (by omega)];decide
def B7K (n:Int):C8:=(⟨#[103]⟩:C8)++Z4 (48+B5 n 2)
def Q0 (k:Int):C8:=(⟨#[122]⟩:C8)++Z4 (48+k)
def Z9 (x:A2n):A2n:=⟨Q2 x.scope,1+B5 x.count 2⟩
def P5 (l:List A2n):List A2n:=if l.length=0 then [⟨⟨[],[]⟩,2⟩] else (l.take 3).map Z9
def A3w (p:B1):Int:=1+B5 (IntKind.i64.wrap (p.kind - 1)) 7
def A2c (p:B1):C8:=if B5 (A2N p.group) 3=1 then B7K p.group.size else ⟨#[]⟩
def A3v (p:B1):C8:=if B5 (A2N p.code) 3=1 then A5o p.code.size else ⟨#[]⟩
def A3f (p:B1):Int:=if B5 p.least 3=1 then B5 p.least 9000 else 0
def P3 (p:B1) (id K:Int):B1 :=
 ⟨idN id,K,B5 p.prio 5,A2c p,A3v p,if K=7 then false else p.closes,if K=4∨K=7 then ⟨[],[]⟩ else Q2 p.scope,A3f p,
 if K=1∨K=3∨K=7 then 1+B5 p.rate 10000 else 0,if K=2 then 1+B5 p.amount 900 else if K=4 then B5 p.amount 3000 else 0,
 if K=3 then 1+B5 p.buy 3 else 0,if K=3 then 1+B5 p.get 2 else 0,if K=4 then P5 p.parts else [],if K=5 then P6 p.tiers 5000 else if K=6 then P6 p.tiers 5 else []⟩
def A2d (p:B1) (id:Int):B1:=P3 p id (A3w p)
def C0C (i:Nat):Int:=((i:Int) * 7+3) % 10
def Y0 (l:List B1) (i:Nat):B1:=A2d (l.getD i default) (C0C i)
def N4 (l:List B1):List B1:=(List.range (min l.length 6)).map (Y0 l)
def A8x (l:List G5) (c:Nat):G5:=⟨A5w c,B5 (l.getD c default).rate 3000⟩
def T7 (l:List G5):List G5:=(List.range (min 3 l.length)).map (A8x l)
def D5 (l:List K7) (k:Nat):K7 :=
 if k<l.length then ⟨Q0 k,T7 (l.getD k default).rates,B5 (l.getD k default).rest 3000,B5 (l.getD k default).ship 3000⟩ else ⟨Q0 k,[],1000 * k,500 * k⟩
def L2 (t:Tax):Tax:=⟨t.incl,t.byOrder,B5 t.round 3,(List.range 3).map (D5 t.zones)⟩
def B1F (s:Ab.Ship):Ab.Ship:=⟨B5 s.fee 900,B5 s.free 3 * 4000⟩
def A7C (p:A5G):A5G:=⟨20+B5 p.window 60,B5 p.grace 40,1+B5 p.mode 3,B5 p.restock 3 * B5 p.restock 2500,O5 p.order,O5 p.credit⟩
def H6 (r:H0):H0:=⟨G2 r.items,N4 r.promos,L2 r.tax,B1F r.ship,A7C r.policy⟩
theorem C9l (n:Int):B5 n 2=0∨B5 n 2=1:=by
 have:=C7 n (n:=2) (by decide);omega
theorem C7i (n:Int):B5 n 3=0∨B5 n 3=1∨B5 n 3=2:=by
 have:=C7 n (n:=3) (by decide);omega
theorem C8a (n:Int):B5 n 10=0∨B5 n 10=1∨B5 n 10=2∨B5 n 10=3∨B5 n 10=4∨B5 n 10=5∨B5 n 10=6∨B5 n 10=7∨B5 n 10=8∨B5 n 10=9:=by
 have:=C7 n (n:=10) (by decide);omega
theorem le3 {n:Nat} (h:n≤3):n=0∨n=1∨n=2∨n=3:=by omega
theorem lt3 {n:Nat} (h:n<3):n=0∨n=1∨n=2:=by omega
theorem U1 {s:C8} (h:D1 s=true):s.size≤12:=by
 unfold D1 at h
 simp only [D5G,D5C] at h
 exact h.1.2
theorem A9B (n:Int):D1 (A1q n)=true:=by
 unfold A1q
 rcases C9k n with h | h | h | h | h | h | h | h<;>rw [h]<;>kernel_rfl
theorem A6C (n:Int):D1 (A5w n)=true:=by
 unfold A5w
 rcases C7i n with h | h | h<;>rw [h]<;>kernel_rfl
theorem B0V (n:Int):D1 (A5o n)=true:=by
 unfold A5o
 rcases C7i n with h | h | h<;>rw [h]<;>kernel_rfl
theorem A9M (n:Int):D1 (B7K n)=true:=by
 unfold B7K
 rcases C9l n with h | h<;>rw [h]<;>kernel_rfl
theorem B5K (n:Int):D1 (idN n)=true:=by
 unfold idN
 rcases C8a n with h | h | h | h | h | h | h | h | h | h<;>rw [h]<;>kernel_rfl
theorem B3y:A2G ⟨#[]⟩=true:=by kernel_rfl
theorem B5W {s:C8} (h:D1 s=true):A2G s=true:=by unfold A2G;rw [h,D6q]
theorem A9N (p:B1):A2G (A2c p)=true∧(A2c p).size≤12:=by
 unfold A2c;split
 ·exact ⟨B5W (A9M _),U1 (A9M _)⟩
 ·exact ⟨B3y,by decide⟩
theorem B0W (p:B1):A2G (A3v p)=true∧(A3v p).size≤12:=by
 unfold A3v;split
 ·exact ⟨B5W (B0V _),U1 (B0V _)⟩
 ·exact ⟨B3y,by decide⟩
theorem C3k (p:B1):0≤A3f p∧A3f p<9000:=by
 have:=C7 p.least (n:=9000) (by decide)
 unfold A3f;split<;>omega
theorem A5N:A0t ⟨[],[]⟩=true∧A2g ⟨[],[]⟩:=⟨by kernel_rfl,⟨by decide,by decide,fun x hx=>(by cases hx),fun x hx=>(by cases hx)⟩⟩
theorem A5d (l:List A2n):(1≤(P5 l).length∧(P5 l).length≤3)∧∀ x∈P5 l,A1a x=true∧A2g x.scope:=by
 unfold P5
 split
 ·refine ⟨⟨D5J _,by show 1≤3;decide⟩,fun x hx=>?_⟩
  rw [D6f.1 hx]
  exact ⟨by kernel_rfl,A5N.2⟩
 ·rename_i h
  refine ⟨by rw [D5F,D5K];omega,fun x hx=>?_⟩
  obtain ⟨y,_,rfl⟩:=D5X.1 hx
  obtain ⟨h1,h2⟩:=A2X y.scope
  have:=C7 y.count (n:=2) (by decide)
  refine ⟨?_,h2⟩
  unfold A1a
  rw [show (Z9 y).scope=Q2 y.scope from rfl,h1,show (Z9 y).count=1+B5 y.count 2 from rfl,D5H (by omega),D5H (by omega)];rfl
theorem B2s (l:List A0V) (step:Int) (i k:Nat) (hk:k<i):(Q4 l step i).1.getD k default=B1G (l.getD k default) ((Q4 l step k).2+B5 (l.getD k default).least step):=by
 induction i with
 | zero=>omega
 | succ i ih =>
  have hl:=A7M l step i
  show ((Q4 l step i).1++[_]).getD k default=_
  by_cases e:k=i
  ·subst e
   rw [D5A,D5Y (by omega),hl,Nat.sub_self];rfl
  ·rw [D5A,D5W (by omega),←D5A]
   exact ih (by omega)
theorem A2Y (l:List A0V) (step:Int) (h:step=5000∨step=5):A0g (P6 l step)=true∧(P6 l step).length≤3:=by
 unfold P6
 split
 ·rcases h with rfl | rfl
  ·exact ⟨by kernel_rfl,by show 1≤3;decide⟩
  ·exact ⟨by kernel_rfl,by show 1≤3;decide⟩
 ·rename_i h0
  have hs:0<step∧step≤5000:=by omega
  have hl:=A7M l step (min l.length 3)
  refine ⟨?_,by omega⟩
  unfold A0g
  rw [hl,D5H (by omega),D5H (by omega)]
  show L4 _ _=true
  refine L1 fun k hk=>?_
  rw [hl] at hk
  have hg:=B2s l step (min l.length 3) k hk
  have hm:=C7 (l.getD k default).least hs.1
  have hr:=C7 (l.getD k default).rate (n:=4000) (by decide)
  have ha:=C7 (l.getD k default).amount (n:=300) (by decide)
  have hlo:=A8M l hs.1 k
  have hip:(k:Int) * step≤3 * 5000:=D7Y (by omega) hs.2 (by omega) (by omega)
  unfold A4b
  rw [hg]
  have hprev:(if k=0 then -1 else ((Q4 l step (min l.length 3)).1.getD (k - 1) default).least)<(Q4 l step k).2+B5 (l.getD k default).least step:=by
   by_cases e:k=0
   ·rw [if_pos e];omega
   ·rw [if_neg e,B2s l step (min l.length 3) (k - 1) (by omega)]
    obtain ⟨j,rfl⟩:∃ j,k=j+1:=⟨k - 1,by omega⟩
    rw [Nat.add_sub_cancel]
    show (Q4 l step j).2+B5 (l.getD j default).least step<(Q4 l step j).2+B5 (l.getD j default).least step+1+B5 (l.getD (j+1) default).least step
    omega
  show (!(decide ((Q4 l step k).2+B5 (l.getD k default).least step≤_)||decide ((Q4 l step k).2+B5 (l.getD k default).least step>10000000000000)||decide (B5 (l.getD k default).rate 4000<0)||decide (B5 (l.getD k default).rate 4000>10000)||decide (1+B5 (l.getD k default).amount 300<0)||decide (1+B5 (l.getD k default).amount 300>10000000000000)||(B5 (l.getD k default).rate 4000==0&&1+B5 (l.getD k default).amount 300==0)))=true
  rw [D5H (by omega),D5H (by omega),D5H (by omega),D5H (by omega),D5H (by omega),D5H (by omega),show (1+B5 (l.getD k default).amount 300==0)=false from by rw [D6l];omega,D6e];rfl
theorem C0G (l:List Int) (n:Nat):(∀ x∈Q8 l n,1≤x∧x≤5)∧(Q8 l n).Nodup:=by
 induction n with
 | zero=>exact ⟨fun x hx=>absurd hx D7f,List.nodup_nil⟩
 | succ n ih =>
  rw [A5T];unfold A5S
  split
  ·exact ih
  ·rename_i h
   have hm:=C7 (gI l n) (n:=5) (by decide)
   have hno:1+B5 (gI l n) 5∉Q8 l n:=fun hx=>h (D7m.2 ⟨_,hx,D7O _⟩)
   refine ⟨fun x hx=>?_,List.nodup_append.2 ⟨ih.2,List.nodup_cons.2 ⟨D7f,List.nodup_nil⟩,fun a ha b hb=>?_⟩⟩
   ·rcases D6Q.1 hx with h' | h'
    ·exact ih.1 x h'
    ·rw [D6f.1 h'];omega
   ·rw [D6f.1 hb];intro e;exact hno (e▸ha)
theorem B5P {l:List Int} (h1:∀ x∈l,1≤x∧x≤5) (h2:l.Nodup):A1n l=true:=by
 refine L1 fun k hk=>?_
 have hx:=h1 _ (A6 hk)
 unfold A2E
 rw [show J9 1 9 (l.getD k default)=true from F4.2 (by omega)]
 have:((l.take k).any fun y=>l.getD k default==y)=false:=by
  rw [D6F]
  intro y hy
  obtain ⟨j,hj,rfl⟩:=D7A hy
  rw [D5K] at hj
  rw [D6z,D5A,D5I hk,Option.getD_some,List.getElem_take]
  intro e
  have:=(List.nodup_iff_pairwise_ne.1 h2)
  exact absurd e.symm (D7j.1 this j k (by omega) hk (by omega))
 rw [this];rfl
theorem A0H (l:List Int):A1n (O5 l)=true∧(O5 l).length≤6:=by
 have h:=C0G l (min l.length 6)
 have:=B1j l (min l.length 6)
 exact ⟨B5P h.1 h.2,by show (Q8 l _).length≤6;omega⟩
theorem A2e (q:B1) (h1:1≤q.kind∧q.kind<8) (hh:A7f q=true) (hp:A9r q=true) (hk:A7g q=true):H3 q=true:=by
 unfold H3;rw [D6m (show q.kind≥1 from h1.1),D6m h1.2,hh,hp,hk];rfl
theorem A3u (q:B1) (h1:D1 q.id=true) (h2:0≤q.prio∧q.prio≤1000) (h3:A2G q.group=true) (h4:A2G q.code=true) (h5:A0t q.scope=true) (h6:0≤q.least∧q.least≤10000000000000):A7f q=true:=by
 unfold A7f;rw [h1,F4.2 h2,h3,h4,h5,F4.2 h6];rfl
theorem A6d (p:B1):1≤A3w p∧A3w p≤7:=by
 have:=C7 (IntKind.i64.wrap (p.kind - 1)) (n:=7) (by decide)
 unfold A3w;omega
theorem A9u (p:B1) (id K:Int) (hK:1≤K∧K≤7):H3 (P3 p id K)=true:=by
 have h1:=B5K id
 have h2:=C7 p.prio (n:=5) (by decide)
 have h3:=(A9N p).1
 have h4:=(B0W p).1
 have h5:=(A2X p.scope).1
 have h6:=C3k p
 have r:=C7 p.rate (n:=10000) (by decide)
 have a9:=C7 p.amount (n:=900) (by decide)
 have a3:=C7 p.amount (n:=3000) (by decide)
 have b3:=C7 p.buy (n:=3) (by decide)
 have g2:=C7 p.get (n:=2) (by decide)
 have hpt:=A5d p.parts
 have ht5:=(A2Y p.tiers 5000 (.inl rfl)).1
 have ht6:=(A2Y p.tiers 5 (.inr rfl)).1
 unfold P3
 generalize idN id=I at h1 ⊢
 generalize B5 p.prio 5=pr at h2 ⊢
 generalize A2c p=G at h3 ⊢
 generalize A3v p=C at h4 ⊢
 generalize Q2 p.scope=S at h5 ⊢
 generalize A3f p=L at h6 ⊢
 generalize B5 p.rate 10000=R at r ⊢
 generalize B5 p.amount 900=A at a9 ⊢
 generalize B5 p.amount 3000=A3 at a3 ⊢
 generalize B5 p.buy 3=B at b3 ⊢
 generalize B5 p.get 2=Gt at g2 ⊢
 generalize P5 p.parts=PT at hpt ⊢
 generalize P6 p.tiers 5000=T5 at ht5 ⊢
 generalize P6 p.tiers 5=T6 at ht6 ⊢
 generalize p.closes=cl
 rcases (by omega:K=1∨K=2∨K=3∨K=4∨K=5∨K=6∨K=7) with rfl | rfl | rfl | rfl | rfl | rfl | rfl
 ·exact A2e ⟨I,1,pr,G,C,cl,S,L,1+R,0,0,0,[],[]⟩ ⟨(by decide:(1:Int)≤1),(by decide:(1:Int)<8)⟩ (A3u _ h1 ⟨h2.1,by show pr≤1000;omega⟩ h3 h4 h5 ⟨h6.1,by show L≤_;omega⟩) rfl (show J9 1 10000 (1+R)=true from F4.2 (by omega))
 ·exact A2e ⟨I,2,pr,G,C,cl,S,L,0,1+A,0,0,[],[]⟩ ⟨(by decide:(1:Int)≤2),(by decide:(2:Int)<8)⟩ (A3u _ h1 ⟨h2.1,by show pr≤1000;omega⟩ h3 h4 h5 ⟨h6.1,by show L≤_;omega⟩) rfl (show J9 1 1000000000 (1+A)=true from F4.2 (by omega))
 ·refine A2e ⟨I,3,pr,G,C,cl,S,L,1+R,0,1+B,1+Gt,[],[]⟩ ⟨(by decide:(1:Int)≤3),(by decide:(3:Int)<8)⟩ (A3u _ h1 ⟨h2.1,by show pr≤1000;omega⟩ h3 h4 h5 ⟨h6.1,by show L≤_;omega⟩) rfl ?_
  show (J9 1 10000 (1+R)&&(J9 1 100 (1+B)&&J9 1 100 (1+Gt)))=true
  rw [F4.2 (show 1≤1+R∧1+R≤10000 by omega),F4.2 (show 1≤1+B∧1+B≤100 by omega),F4.2 (show 1≤1+Gt∧1+Gt≤100 by omega)];rfl
 ·refine A2e ⟨I,4,pr,G,C,cl,⟨[],[]⟩,L,0,A3,0,0,PT,[]⟩ ⟨(by decide:(1:Int)≤4),(by decide:(4:Int)<8)⟩ (A3u _ h1 ⟨h2.1,by show pr≤1000;omega⟩ h3 h4 A5N.1 ⟨h6.1,by show L≤_;omega⟩) rfl ?_
  show (!(decide ((PT.length:Int)<1)||decide ((PT.length:Int)>3)||decide (A3<0)||decide (A3>10000000000000))&&!(PT.any fun x=>!A1a x))=true
  rw [D5H (by omega),D5H (by omega),D5H (by omega),D5H (by omega),show (PT.any fun x=>!A1a x)=false from by
   rw [D6F];intro x hx;rw [(hpt.2 x hx).1];simp];rfl
 ·exact A2e ⟨I,5,pr,G,C,cl,S,L,0,0,0,0,[],T5⟩ ⟨(by decide:(1:Int)≤5),(by decide:(5:Int)<8)⟩ (A3u _ h1 ⟨h2.1,by show pr≤1000;omega⟩ h3 h4 h5 ⟨h6.1,by show L≤_;omega⟩) rfl ht5
 ·exact A2e ⟨I,6,pr,G,C,cl,S,L,0,0,0,0,[],T6⟩ ⟨(by decide:(1:Int)≤6),(by decide:(6:Int)<8)⟩ (A3u _ h1 ⟨h2.1,by show pr≤1000;omega⟩ h3 h4 h5 ⟨h6.1,by show L≤_;omega⟩) rfl ht6
 ·exact A2e ⟨I,7,pr,G,C,false,⟨[],[]⟩,L,1+R,0,0,0,[],[]⟩ ⟨(by decide:(1:Int)≤7),(by decide:(7:Int)<8)⟩ (A3u _ h1 ⟨h2.1,by show pr≤1000;omega⟩ h3 h4 A5N.1 ⟨h6.1,by show L≤_;omega⟩) rfl (show J9 1 10000 (1+R)=true from F4.2 (by omega))
theorem A2g.fit {s:W1} (h:A2g s):A7U s:=⟨by have:=h.n1;show _≤9223372036854775807;omega,by have:=h.n2;show _≤9223372036854775807;omega⟩
theorem B1E (p:B1) (id K:Int):Q7 (P3 p id K):=by
 have hs:=(A2X p.scope).2
 have hp:=A5d p.parts
 refine ⟨?_,?_,?_⟩
 ·show A7U (if K=4∨K=7 then ⟨[],[]⟩ else Q2 p.scope)
  split
  ·exact A5N.2.fit
  ·exact hs.fit
 ·show (if K=4 then P5 p.parts else []).length≤9223372036854775807
  split
  ·omega
  ·exact D6b _
 ·show ∀ x∈(if K=4 then P5 p.parts else []),_
  split
  ·exact fun x hx=>⟨(hp.2 x hx).2.fit.skus,(hp.2 x hx).2.fit.cats⟩
  ·exact fun x hx=>absurd hx D7f
theorem A1M (l:List B1):(N4 l).length=min l.length 6:=by unfold N4;rw [D5F,D6d]
theorem A6f {l:List B1} {k:Nat} (hk:k<(N4 l).length):(N4 l).getD k default=Y0 l k:=by
 rw [A1M] at hk
 unfold N4
 rw [D5A,D6y,D7e hk];rfl
theorem A6g {l:List B1} {p:B1} (h:p∈N4 l):∃ (q:B1) (id K:Int),(1≤K∧K≤7)∧p=P3 q id K:=by
 obtain ⟨k,hk,rfl⟩:=D5X.1 h
 exact ⟨_,_,_,A6d _,rfl⟩
theorem B7L:((List.range 6).all fun j=>(List.range j).all fun i=>!((idN (C0C i)).toList==(idN (C0C j)).toList))=true:=by kernel_rfl
theorem A9v (l:List B1):promosC (N4 l)=true:=by
 have hl:=A1M l
 unfold promosC
 rw [D6m (by omega),D5P]
 refine L1 fun k hk=>?_
 unfold W7
 rw [A6f hk,show H3 (Y0 l k)=true from A9u _ _ _ (A6d _),D5P,D5Q,D6F]
 intro x hx
 obtain ⟨j,hj,rfl⟩:=D3 hx
 rw [D5K] at hj
 rw [show ((N4 l).take k).getD j default=Y0 l j by rw [D5A,D5O (by omega),←D5A,A6f (by omega)]]
 have:=D5V.1 (D5V.1 B7L k (D5U.2 (by omega))) j (D5U.2 (by omega))
 rw [D5Q] at this
 show ¬((idN (C0C j)).toList==(idN (C0C k)).toList)=true
 rw [this];simp
theorem C0m (n:Nat) (h:n≤3):A0s ((List.range n).map fun c:Nat=>A5w c)=true:=by
 rcases le3 h with rfl | rfl | rfl | rfl<;>kernel_rfl
theorem A8y (l:List G5):(T7 l).length≤3∧(∀ x∈T7 l,A4x x=true∧x.cat.size≤12)∧A0s ((T7 l).map G5.cat)=true:=by
 unfold T7
 refine ⟨by rw [D5F,D6d];omega,fun x hx=>?_,?_⟩
 ·obtain ⟨c,_,rfl⟩:=D5X.1 hx
  have:=C7 (l.getD c default).rate (n:=3000) (by decide)
  refine ⟨?_,U1 (A6C _)⟩
  unfold A4x
  rw [show (A8x l c).cat=A5w c from rfl,A6C,show J9 0 10000 (A8x l c).rate=true from F4.2 ⟨this.1,by show B5 _ 3000≤_;omega⟩];rfl
 ·rw [D8a]
  exact C0m _ (by omega)
theorem A7O:((List.range 3).all fun k:Nat=>D1 (Q0 k))=true:=by kernel_rfl
theorem B6p (l:List K7) (k:Nat) (hk:k<3):Y3 (D5 l k)=true:=by
 have hn:=D5V.1 A7O k (D5U.2 hk)
 have hz:=U1 hn
 unfold D5
 split
 ·obtain ⟨h1,h2,h3⟩:=A8y (l.getD k default).rates
  have m1:=C7 (l.getD k default).rest (n:=3000) (by decide)
  have m2:=C7 (l.getD k default).ship (n:=3000) (by decide)
  generalize T7 (l.getD k default).rates=R at h1 h2 h3 ⊢
  unfold Y3
  show (!(!D1 (Q0 k)||!J9 0 10000 (B5 _ 3000)||!J9 0 10000 (B5 _ 3000)||decide ((R.length:Int)>40))&&(L4 R (fun _ x=>A4x x)&&A0s (R.map G5.cat)))=true
  rw [hn,F4.2 (show 0≤B5 (l.getD k default).rest 3000∧_≤10000 by omega),F4.2 (show 0≤B5 (l.getD k default).ship 3000∧_≤10000 by omega),D5H (by omega),h3,show L4 R (fun _ x=>A4x x)=true from L1 fun j hj=>(h2 _ (A6 hj)).1];rfl
 ·rcases lt3 hk with rfl | rfl | rfl
  ·exact (by kernel_rfl:Y3 ⟨Q0 (0:Nat),[],1000 * ((0:Nat):Int),500 * ((0:Nat):Int)⟩=true)
  ·exact (by kernel_rfl:Y3 ⟨Q0 (1:Nat),[],1000 * ((1:Nat):Int),500 * ((1:Nat):Int)⟩=true)
  ·exact (by kernel_rfl:Y3 ⟨Q0 (2:Nat),[],1000 * ((2:Nat):Int),500 * ((2:Nat):Int)⟩=true)
theorem C2b (l:List K7):(((List.range 3).map (D5 l)).map K7.name)=[Q0 0,Q0 1,Q0 2]:=by
 have e:∀ k,(D5 l k).name=Q0 k:=fun k=>by unfold D5;split<;>rfl
 show [(D5 l 0).name,(D5 l 1).name,(D5 l 2).name]=_
 rw [e,e,e];rfl
theorem B8h (t:Tax):taxC (L2 t)=true:=by
 have hr:=C7 t.round (n:=3) (by decide)
 have hz:∀ z∈(L2 t).zones,Y3 z=true:=fun z hz=>by
  obtain ⟨k,hk,rfl⟩:=D5X.1 hz
  exact B6p _ k (D5U.1 hk)
 have hn:(L2 t).zones.length=3:=by show ((List.range 3).map _).length=3;rw [D5F,D6d]
 unfold taxC
 rw [show (L2 t).round=B5 t.round 3 from rfl,hn,D5H (show ¬ B5 t.round 3<0 by omega),D5H (show ¬ B5 t.round 3>2 by omega),show (L2 t).zones.map K7.name=[Q0 0,Q0 1,Q0 2] from C2b _,
  show A0s [Q0 0,Q0 1,Q0 2]=true by kernel_rfl,show L4 (L2 t).zones (fun _ z=>Y3 z)=true from L1 fun j hj=>hz _ (A6 hj)];rfl
theorem B6j (l:List Ab.Item) (k:Nat):A4q (O4 l k)=true∧(O4 l k).sku.size≤12∧(O4 l k).cat.size≤12∨8≤k:=by
 by_cases h8:8≤k
 ·exact .inr h8
 refine .inl ?_
 have e:∀ (c:C8) (pr:Int) (f:Bool),D1 c=true→0≤pr∧pr≤1000000000→A4q ⟨A1q k,c,pr,f⟩=true∧(A1q k).size≤12∧c.size≤12:=fun c pr f hc hp=>by
  refine ⟨?_,U1 (A9B _),U1 hc⟩
  unfold A4q
  rw [show D1 (Ab.Item.mk (A1q k) c pr f).sku=true from A9B _,show D1 (Ab.Item.mk (A1q k) c pr f).cat=true from hc,D5H (show ¬(Ab.Item.mk (A1q k) c pr f).price<0 from by show ¬ pr<0;omega),D5H (show ¬(Ab.Item.mk (A1q k) c pr f).price>1000000000 from by show ¬ pr>_;omega)];rfl
 have hm:=C7 (l.getD k default).price (n:=4000) (by decide)
 unfold O4
 split
 ·exact e _ _ _ (A6C _) (by omega)
 ·exact e _ _ _ (A6C _) (by omega)
theorem A7h {l:List Ab.Item} {x:Ab.Item} (h:x∈G2 l):A4q x=true∧x.sku.size≤12∧x.cat.size≤12:=by
 obtain ⟨k,hk,rfl⟩:=D5X.1 h
 have:=D5U.1 hk
 rcases B6j l k with h | h
 ·exact h
 ·omega
theorem B0i (l:List Ab.Item):A1G (G2 l)=true:=by
 unfold A1G
 rw [A2i,B3L,show A0s [Z4 97,Z4 98,Z4 99,Z4 100,Z4 101,Z4 102,Z4 103,Z4 104]=true by kernel_rfl,show L4 (G2 l) (fun _ x=>A4q x)=true from L1 fun j hj=>(A7h (A6 hj)).1];rfl
theorem B0j (r:H0):W0 (H6 r)=true:=by
 have h1:=C7 r.ship.fee (n:=900) (by decide)
 have h2:=C7 r.ship.free (n:=3) (by decide)
 have h3:=C7 r.policy.window (n:=60) (by decide)
 have h4:=C7 r.policy.grace (n:=40) (by decide)
 have h5:=C7 r.policy.mode (n:=3) (by decide)
 have h6:=C7 r.policy.restock (n:=3) (by decide)
 have h7:=C7 r.policy.restock (n:=2500) (by decide)
 have h8:B5 r.policy.restock 3 * B5 r.policy.restock 2500≤2 * 2499:=D7Y (by omega) (by omega) (by omega) (by omega)
 have h9:0≤B5 r.policy.restock 3 * B5 r.policy.restock 2500:=D7a h6.1 h7.1
 show (A1G (G2 r.items)&&promosC (N4 r.promos)&&taxC (L2 r.tax)&&A9S (B1F r.ship)&&A6N (A7C r.policy))=true
 rw [B0i,A9v,B8h r.tax]
 have e1:A9S (B1F r.ship)=true:=by
  show (J9 0 1000000000 (B5 r.ship.fee 900)&&J9 0 10000000000000 (B5 r.ship.free 3 * 4000))=true
  rw [F4.2 (by omega),F4.2 (by omega)];rfl
 have e2:A6N (A7C r.policy)=true:=by
  show (J9 0 100000 (20+B5 r.policy.window 60)&&J9 0 100000 (B5 r.policy.grace 40)&&decide (1+B5 r.policy.mode 3≥1)&&decide (1+B5 r.policy.mode 3≤3)&&J9 0 10000 (B5 r.policy.restock 3 * B5 r.policy.restock 2500)&&A1n (O5 r.policy.order)&&A1n (O5 r.policy.credit))=true
  rw [F4.2 (by omega),F4.2 (by omega),D6m (by omega),D6m (by omega),F4.2 (by omega),(A0H _).1,(A0H _).1];rfl
 rw [e1,e2];rfl
theorem B2P (r:H0):A0T (H6 r):=by
 have h1:=A1M r.promos
 have h2:=(A0H r.policy.order).2
 have h3:=(A0H r.policy.credit).2
 refine ⟨by show (N4 r.promos).length≤9223372036854775807;omega,fun p hp=>?_,by show (O5 r.policy.order).length<_;omega,by show (O5 r.policy.credit).length<_;omega⟩
 obtain ⟨q,id,K,_,rfl⟩:=A6g hp
 exact B1E q id K
end Go.Proofs.YtaapofnkmpiknaaGreat
namespace Go.Proofs.YtaapofnkmpiknaaGreat
open Go Go.Ab
structure A4e where
 goods:Int
 tax:Int
 ship:Int
 shipTax:Int
 fee:Int
def A1x (b:A4e):AV:=.agg [eI b.goods,eI b.tax,eI b.ship,eI b.shipTax,eI b.fee]
def A0e (q:A0S):AV:=.agg [B0 q.goods,B0 q.taxes,eI q.ship,eI q.shipTax,eI q.total,A8 2 B9h q.deals]
def N2 (r:H0) (l:List E7):List C8:=(C3 r.items l).map Ab.Item.cat
def B4M (v:B7j) (deals:List A1T):A0S:=⟨v.goods,v.taxes,v.ship,v.shipTax,A2 v.goods+A2 v.taxes+v.ship+v.shipTax,deals⟩
def A9z (r:H0) (z:K7) (exempt:Bool) (l:List E7) (Pr:A3T):A0S:=B4M (L5 r.tax z exempt (N2 r l) Pr.nets Pr.ship) Pr.deals
def A2q (q:A0S):A4e:=⟨A2 q.goods,A2 q.taxes,q.ship,q.shipTax,0⟩
theorem B8D {l:List Int} {B:Int} (hB:0≤B) (h:∀ x∈l,-B≤x∧x≤B) : -(l.length * B)≤A2 l∧A2 l≤l.length * B:=by
 induction l with
 | nil=>exact ⟨by show -(((0:Nat):Int) * B)≤0;rw [Int.natCast_zero,D8A];omega,by show (0:Int)≤((0:Nat):Int) * B;rw [Int.natCast_zero,D8A];omega⟩
 | cons x l ih =>
  have h1:=ih fun y hy=>h y (D6a _ hy)
  have h2:=h x (D6c ..)
  rw [J5,D6n,show ((l.length+1:Nat):Int) * B=l.length * B+B by rw [Int.natCast_add,D8g];simp]
  omega
structure K3 (l:List Int):Prop where
 len:l.length≤1000
 all:∀ x∈l,-10000000000000≤x∧x≤10000000000000
theorem K3.take {l:List Int} (h:K3 l) (i:Nat) : -10000000000000000≤A2 (l.take i)∧A2 (l.take i)≤10000000000000000:=by
 have h1:=B8D (l:=l.take i) (B:=10000000000000) (by decide) fun x hx=>h.all x (D8z hx)
 have h2:(l.take i).length≤1000:=by rw [D5K];have:=h.len;omega
 omega
theorem K3.sum {l:List Int} (h:K3 l) : -10000000000000000≤A2 l∧A2 l≤10000000000000000:=by
 have:=h.take l.length
 rwa [D5L] at this
theorem K3.step {l:List Int} (h:K3 l) {i:Nat} (hi:i<l.length):IntKind.i64.wrap (A2 (l.take i)+gI l i)=A2 (l.take (i+1)):=by
 have h1:=h.take (i+1)
 rw [K5 hi] at h1 ⊢
 exact A5 (by omega) (by omega)
structure A2z (t:Tax) (z:K7) (cats:List C8) (nets:List Int) (ship:Int):Prop where
 tax:taxC t=true
 zone:Y3 z=true
 cats:cats.length=nets.length
 nets:A4J nets
 ship:0≤ship∧ship≤10000000000000
structure B8W (q:A0S) (n:Nat):Prop where
 goods:K3 q.goods
 taxes:K3 q.taxes
 ngoods:q.goods.length=n
 ntaxes:q.taxes.length=n
 pos:∀ x∈q.taxes,0≤x
 ship:0≤q.ship∧q.ship≤10000000000000
 shipTax:0≤q.shipTax∧q.shipTax≤10000000000000
 total:q.total=A2 q.goods+A2 q.taxes+q.ship+q.shipTax
theorem A3y {t:Tax} {z:K7} {cats:List C8} {nets:List Int} {ship:Int} (h:A2z t z cats nets ship):(cats.map (E9 z)).length=nets.length∧∀ x∈cats.map (E9 z),0≤x∧x≤10000:=by
 refine ⟨by rw [D5F];exact h.cats,fun x hx=>?_⟩
 obtain ⟨c,_,rfl⟩:=D5X.1 hx
 exact B6y h.zone c
theorem B0v {t:Tax} {z:K7} {cats:List C8} {nets:List Int} {ship:Int} (h:A2z t z cats nets ship) (exempt:Bool) (deals:List A1T):B8W (B4M (L5 t z exempt cats nets ship) deals) nets.length:=by
 obtain ⟨r1,r2⟩:=A3y h
 obtain ⟨t1,t2⟩:=A6q (t:=t) h.nets r1 r2
 have hz:=(A4F h.zone).2.1
 have hm:=A2W (t:=t) h.ship.1 hz
 have hs:=h.ship
 have hn:=h.nets
 have hnx:∀ i,i<nets.length→0≤gI nets i∧gI nets i≤10000000000000:=fun i hi=>by
  have h1:=hn.pos _ (show gI nets i∈nets from A6 hi)
  have h2:=J2 hn.pos (show gI nets i∈nets from A6 hi)
  have h3:=hn.sum
  exact ⟨h1,by omega⟩
 have htx:∀ i,i<nets.length→0≤gI (L0 t (cats.map (E9 z)) nets) i∧gI (L0 t (cats.map (E9 z)) nets) i≤10000000000000:=fun i hi=>t2 _ (A6 (by omega))
 have hnl:=hn.len
 have gl:(A2D t (L0 t (cats.map (E9 z)) nets) nets).length=nets.length:=by unfold A2D;rw [D5F,D6d]
 refine ⟨⟨by show (A2D _ _ _).length≤_;omega,fun x hx=>?_⟩,⟨?_,fun x hx=>?_⟩,gl,?_,fun x hx=>?_,?_,?_,rfl⟩
 ·obtain ⟨i,hi,rfl⟩:=D5X.1 (show x∈A2D _ _ _ from hx)
  have hi:=D5U.1 hi
  have h1:=hnx i hi
  have h2:=htx i hi
  split<;>omega
 ·show (if exempt=true then List.replicate nets.length 0 else L0 t (cats.map (E9 z)) nets).length≤1000
  split
  ·rw [D6J];omega
  ·omega
 ·have hx:x∈(if exempt=true then List.replicate nets.length 0 else L0 t (cats.map (E9 z)) nets):=hx
  split at hx
  ·rw [(List.mem_replicate.1 hx).2];omega
  ·have:=t2 x hx;omega
 ·show (if exempt=true then List.replicate nets.length 0 else L0 t (cats.map (E9 z)) nets).length=nets.length
  split
  ·exact D6J
  ·exact t1
 ·have hx:x∈(if exempt=true then List.replicate nets.length 0 else L0 t (cats.map (E9 z)) nets):=hx
  split at hx
  ·rw [(List.mem_replicate.1 hx).2];exact D6j _
  ·exact (t2 x hx).1
 ·show 0≤(if t.incl=true then ship - N8 t ship z.ship else ship)∧(if t.incl=true then ship - N8 t ship z.ship else ship)≤10000000000000
  split<;>omega
 ·show 0≤(if exempt=true then 0 else N8 t ship z.ship)∧(if exempt=true then 0 else N8 t ship z.ship)≤10000000000000
  split<;>omega
theorem B3w {t:Tax} {z:K7} {cats:List C8} {nets:List Int} {ship:Int} (h:A2z t z cats nets ship) (exempt:Bool) :
  A2 (L5 t z exempt cats nets ship).goods≤10000000000000∧-10000000000000≤A2 (L5 t z exempt cats nets ship).goods∧A2 (L5 t z exempt cats nets ship).taxes≤10000000000000:=by
 obtain ⟨r1,r2⟩:=A3y h
 obtain ⟨t1,t2⟩:=A6q (t:=t) h.nets r1 r2
 have hs:=h.nets.sum
 have hle:∀ i,i<nets.length→gI (L0 t (cats.map (E9 z)) nets) i≤gI nets i:=fun i hi=>B6Y h.nets r1 r2 hi
 have h0:∀ i,i<nets.length→0≤gI (L0 t (cats.map (E9 z)) nets) i:=fun i hi=>(t2 _ (A6 (by omega))).1
 have hn0:∀ i,i<nets.length→0≤gI nets i:=fun i hi=>h.nets.pos _ (A6 hi)
 have hrn:=A6h nets
 have hg:A2 (A2D t (L0 t (cats.map (E9 z)) nets) nets)≤A2 ((List.range nets.length).map (gI nets)):=by
  refine A6o _ _ _ fun i hi=>?_
  have:=h0 i hi
  split<;>omega
 have hg0:0≤A2 (A2D t (L0 t (cats.map (E9 z)) nets) nets):=C1 fun x hx=>by
  obtain ⟨i,hi,rfl⟩:=D5X.1 hx
  have hi:=D5U.1 hi
  have h1:=hle i hi
  have h2:=hn0 i hi
  split<;>omega
 have ht:A2 (L0 t (cats.map (E9 z)) nets)≤A2 ((List.range nets.length).map (gI nets)):=by
  have e:=A6h (L0 t (cats.map (E9 z)) nets)
  rw [t1] at e
  rw [←e]
  exact A6o _ _ _ fun i hi=>hle i hi
 rw [hrn] at hg ht
 refine ⟨by show A2 (A2D _ _ _)≤_;omega,by show _≤A2 (A2D _ _ _);omega,?_⟩
 show A2 (if exempt=true then List.replicate nets.length 0 else L0 t (cats.map (E9 z)) nets)≤_
 split
 ·have e:∀ n,A2 (List.replicate n (0:Int))=0:=fun n=>by
   induction n with
   | zero=>rfl
   | succ n ih=>rw [List.replicate_succ,J5,ih];rfl
  rw [e];omega
 ·omega
theorem C2a (t:Tax) {k:Nat} (hk:k<3):A0a (L2 t).zones (Q0 k)=some (D5 t.zones k):=by
 have e:∀ j,(D5 t.zones j).name=Q0 j:=fun j=>by unfold D5;split<;>rfl
 have h:(L2 t).zones=[D5 t.zones 0,D5 t.zones 1,D5 t.zones 2]:=rfl
 have d01:((Q0 (0:Nat)).toList==(Q0 (1:Nat)).toList)=false:=by kernel_rfl
 have d02:((Q0 (0:Nat)).toList==(Q0 (2:Nat)).toList)=false:=by kernel_rfl
 have d12:((Q0 (1:Nat)).toList==(Q0 (2:Nat)).toList)=false:=by kernel_rfl
 unfold A0a
 rw [h]
 rcases lt3 hk with rfl | rfl | rfl
 ·rw [D8q (by rw [e];exact D7O _)]
 ·rw [D8r (by rw [e,d01];simp),D8q (by rw [e];exact D7O _)]
 ·rw [D8r (by rw [e,d02];simp),D8r (by rw [e,d12];simp),D8q (by rw [e];exact D7O _)]
theorem B7G {t:Tax} (h:taxC t=true) {s:C8} {z:K7} (hz:A0a t.zones s=some z):Y3 z=true:=by
 unfold taxC at h
 simp only [D5G] at h
 obtain ⟨k,hk,rfl⟩:=D3 (D7Z hz)
 exact A4l.1 h.2.1 k hk
end Go.Proofs.YtaapofnkmpiknaaGreat
