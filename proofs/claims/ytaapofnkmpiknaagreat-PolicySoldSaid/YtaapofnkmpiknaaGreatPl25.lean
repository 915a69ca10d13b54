/- Part 25 of the proof: contracts of the functions that the law reaches -/
import Derived.Test.YtaapofnkmpiknaaGreatPl24
set_option maxRecDepth 100000
set_option linter.unusedVariables false
set_option linter.unusedSimpArgs false
namespace Go.Proofs.YtaapofnkmpiknaaGreat
open Go Go.Ab
attribute [local irreducible] upd del
theorem B7Q {kn:C8→Bool} {l:List E8} (h:∀ x∈l,K1 kn x=false):O6 kn l=O6 (fun _=>true) l:=by
 unfold O6
 rw [D9i.2 fun x hx=>by rw [h x hx];simp,D9i.2 fun x hx=>by
  have:=h x hx
  simp only [K1,D7q,D6I] at this
  unfold K1;rw [this.2];simp]
theorem C4D (items:List Ab.Item) (l:List E8) (hi:Sm items.length) (hl:Sm l.length) (st:St):S P 160 [A8 4 E9 items,A8 3 J1 l] st fun v st'=>v=eI (O6 (known items) l)∧st'=st:=by
 refine F4 [] Tryz.func160 ?_
 refine lp l.length [0,1,5] (fun i vs s=>(∀ k,k<i→K1 (known items) (l.getD k default)=false)∧vs=[A8 4 E9 items,A8 3 J1 l,eI i]∧s=st) ?_ ?_
 ·conv=>whnf
  exact ⟨fun k hk=>absurd hk (by omega),rfl,rfl⟩
 ·rintro i vs st' hi2 ⟨hok,rfl,rfl⟩
  conv=>whnf
  cases h:decide ((i:Int)<(l.length:Int))
  ·obtain rfl:=C5 h hi2
   conv=>whnf
   refine I2 (B8T l _) ?_
   rw [B7Q (kn:=known items) fun x hx=>by obtain ⟨k,hk,rfl⟩:=D5 hx;exact hok k hk]
   exact ⟨rfl,rfl⟩
  ·have hi':=E2 h
   conv=>whnf
   refine B9 (fun h1=>?_) (fun h1=>?_)<;>rw [h1]
   ·have hs:l.length≤1000:=by have:=D6H h1;omega
    have hc:O6 (known items) l=match l.find? (K1 (known items)) with
     | some x=>if known items x.sku=true then 2 else 7
     | none=>if (decide (L9 l>100000)||decide (J8 l>10000000000000))=true then 5 else 0:=if_neg (by omega)
    have n1:=B5d items (l.getD (i:Int).toNat default).sku hi st'
    have n3:=A2R (l.getD (i:Int).toNat default).price 1000000000 st'
    have yes:K1 (known items) (l.getD (i:Int).toNat default)=false→∀ k,k<i+1→K1 (known items) (l.getD k default)=false:=fun h=>H5 hok h
    have no:K1 (known items) (l.getD (i:Int).toNat default)=true→O6 (known items) l=if known items (l.getD i default).sku=true then 2 else 7:=fun h=>by
     rw [hc,A4t hi' hok h]
    have e:K1 (known items) (l.getD (i:Int).toNat default)=!(!decide (P9 items (l.getD (i:Int).toNat default).sku<0)&&(!decide ((l.getD (i:Int).toNat default).qty<0)&&!decide ((l.getD (i:Int).toNat default).qty>100000)&&N9 0 1000000000 (l.getD (i:Int).toNat default).price)):=by
     unfold K1 lineC known;congr 1;congr 1
     ·rw [←decide_not];exact D8s.2 (by omega)
     ·congr 1;unfold N9;congr 1<;>(rw [←decide_not];exact D8s.2 (by omega))
    have e2:known items (l.getD i default).sku=!decide (P9 items (l.getD (i:Int).toNat default).sku<0):=by
     unfold known;rw [←decide_not];exact D8s.2 (by rw [D6R];omega)
    rw [e] at yes no
    rw [e2] at no
    generalize P9 items (l.getD (i:Int).toNat default).sku=F at *
    generalize N9 0 1000000000 (l.getD (i:Int).toNat default).price=b3 at n3 yes no
    clear e e2 hc
    repeat' ((conv=>whnf);first | refine ⟨rfl,⟨by omega,by omega⟩,?_⟩ | refine B3 n1 ?_ | refine B3 n3 ?_ | cases b3 | (refine B9 (fun h=>?_) (fun h=>?_)<;>rw [h]))
    all_goals (conv=>whnf)
    all_goals first
     | (refine ⟨?_,rfl⟩;rw [no (by simp only [*,D7s,D7c,D7h,D7j]),if_neg (by simp only [*];simp)];rfl)
     | (refine ⟨?_,rfl⟩;rw [no (by simp only [*,D7s,D7c,D7h,D7j]),if_pos (by simp only [*,D7j])];rfl)
     | (refine ⟨rfl,?_⟩;conv=>whnf
        exact nx hi' ⟨yes (by simp only [*,D7j,D7u,D7s]),by rw [B4 (by omega)],rfl⟩)
   ·have:=D6G h1
    conv=>whnf
    refine I2 (B8T l _) ?_
    exact ⟨by rw [show O6 (known items) l=6 from if_pos (by omega),show O6 (fun _=>true) l=6 from if_pos (by omega)];rfl,rfl⟩
theorem C4J (l:List E8) (hl:l.length≤1000) (hok:∀ x∈l,lineC x=true) (hm:O6 (fun _=>true) l=0) (hN:(W1 l).length≤100000) (st:St):S P 161 [A8 3 J1 l] st fun v st'=>v=C6 (W1 l)∧st'=st:=by
 refine A0L (ty:=223) ?_
 refine F4 [] Tryz.func161 ?_
 refine B3 (B8T l _) ?_
 rw [hm];conv=>whnf
 refine lp l.length [0,3,4] (fun i vs s=>∃ sv,vs=[A8 3 J1 l,sv,eI i]∧E6 223 3 Z4 (G5 l i) st sv s) ?_ ?_
 ·conv=>whnf
  exact ⟨.emp,rfl,E6.start _ _ _ _⟩
 ·rintro i vs st' hi ⟨sv,rfl,hc⟩
  conv=>whnf
  cases h:decide ((i:Int)<(l.length:Int))
  ·obtain rfl:=C5 h hi
   conv=>whnf
   exact hc
  ·have hi':=E2 h
   have hx:lineC (l.getD (i:Int).toNat default)=true:=hok _ (A7 hi')
   obtain ⟨⟨q0,q1⟩,_⟩:=(A0A _).1 hx
   have hq:(l.getD (i:Int).toNat default).qty=((l.getD i default).qty.toNat:Int):=by rw [D6R] at *;omega
   have hlt:=fun {j} (hj:j<(l.getD i default).qty.toNat)=>B2I hi' hj
   generalize hn:(l.getD i default).qty.toNat=n at *
   conv=>whnf
   refine lp n [0,3,4,5] (fun j vs s=>∃ sv,vs=[A8 3 J1 l,sv,eI i,eI j]∧E6 223 3 Z4 (G5 l i++List.replicate j (lnU l i)) st sv s) ?_ ?_
   ·conv=>whnf
    exact ⟨sv,rfl,by rw [List.replicate_zero,D8y];exact hc⟩
   ·clear hc
    rintro j vs s hj ⟨sv,rfl,hc⟩
    conv=>whnf
    refine E7 ?_
    rw [hq]
    cases h:decide ((j:Int)<(n:Int))
    ·obtain rfl:=C5 h hj
     conv=>whnf
     refine G2 ?_
     refine nx hi' ⟨sv,by rw [B4 (by omega)],?_⟩
     unfold G5;rw [hn];exact hc
    ·have hj':=E2 h
     have h5:=hlt hj'
     have h6:(G5 l l.length).length≤100000:=hN
     conv=>whnf
     refine E7 ?_
     refine E6.app (q:=C1L) (y:=lnU l i) rfl rfl rfl rfl rfl rfl (by show (_+1) * 24≤140737488355328;omega) hc (fun sv' s' hc'=>?_);conv=>whnf
     refine G2 ?_
     exact nx hj' ⟨sv',by rw [B4 (by omega)],by rw [List.replicate_succ',←D8e];exact hc'⟩
theorem B6S (items:List Ab.Item) (l:List E8) (hi:Sm items.length) (hl:l.length≤1000) (hk:∀ x∈l,known items x.sku=true) (st:St):S P 116 [A8 4 E9 items,A8 3 J1 l] st fun v st'=>v=A8 4 E9 (C3 items l)∧st'=st:=by
 refine A0L (ty:=86) ?_
 refine F4 [] Tryz.func116 ?_
 refine lp l.length [0,1,5,6] (fun i vs s=>∃ sv,vs=[A8 4 E9 items,A8 3 J1 l,sv,eI i]∧E6 86 4 E9 (C3 items (l.take i)) st sv s) ?_ ?_
 ·conv=>whnf
  exact ⟨.emp,rfl,E6.start _ _ _ _⟩
 ·rintro i vs st' hi2 ⟨sv,rfl,hc⟩
  conv=>whnf
  cases h:decide ((i:Int)<(l.length:Int))
  ·obtain rfl:=C5 h hi2
   rw [D6O] at hc;conv=>whnf
   exact hc
  ·have hi':=E2 h
   have hmem:l.getD (i:Int).toNat default∈l:=A7 hi'
   have hkn:=hk _ hmem
   simp only [known,D6F] at hkn
   have hlt:P9 items (l.getD (i:Int).toNat default).sku<(items.length:Int):=(A9u (fun x:Ab.Item=>x.sku.toList==(l.getD (i:Int).toNat default).sku.toList) items).2
   have hlen:(C3 items (l.take i)).length=i:=by unfold C3;rw [D6J,D6N];omega
   conv=>whnf
   refine E7 ?_
   refine I2 (B5d items (l.getD (i:Int).toNat default).sku (by omega) _) ?_
   refine B9 (fun h1=>?_) (fun h1=>?_)
   ·exact absurd (D6H h1) (by omega)
   ·rw [h1];conv=>whnf
    refine E7 ?_
    refine E6.app (q:=r86) (y:=items.getD (P9 items (l.getD (i:Int).toNat default).sku).toNat default) rfl rfl rfl rfl rfl rfl (by show (_+1) * 48≤140737488355328;omega) hc (fun sv' s' hc'=>?_);conv=>whnf
    refine G2 ?_
    refine nx hi' ⟨sv',by rw [B4 (by omega)],?_⟩
    unfold C3 at hc' ⊢
    rw [A1L hi'];exact hc'
end Go.Proofs.YtaapofnkmpiknaaGreat
namespace Go.Proofs.YtaapofnkmpiknaaGreat
open Go Go.Ab
theorem A9N (l:List B1) (o:List Int):(P0 l o).Perm o:=by
 have h:=(A1t l o).map fun e:QE=>gI o e.2.toNat
 rw [D8Y] at h
 have e:(List.range o.length).map ((fun e:QE=>gI o e.2.toNat) ∘ B2k l o)=o:=by
  refine D9a (by simp) fun k h1 h2=>?_
  rw [List.getElem_map,List.getElem_range]
  show o.getD k default=_
  rw [D6D,D6K h2];rfl
 rw [e] at h;exact h
end Go.Proofs.YtaapofnkmpiknaaGreat
namespace Go.Proofs.YtaapofnkmpiknaaGreat
open Go Go.Ab
attribute [local irreducible] upd del
def B5 (v n:Int):Int:=v % 18446744073709551616 % n
theorem C9 (v:Int) {n:Int} (h:0<n):0≤B5 v n∧B5 v n<n:=⟨D8a _ (by omega),D7N _ h⟩
theorem C0F (x:Int):IntKind.u64.wrap x=x % 18446744073709551616:=rfl
theorem C4a (v:Int) {n:Int} (h0:0<n) (h1:n≤9223372036854775807):IntKind.i64.wrap (Int.tmod (IntKind.u64.wrap v) (IntKind.u64.wrap n))=B5 v n:=by
 have h2:=C9 v h0
 have e1:IntKind.u64.wrap n=n:=by rw [C0F];omega
 have e2:Int.tmod (IntKind.u64.wrap v) n=B5 v n:=by rw [D8q (by rw [C0F];omega)];rfl
 rw [e1,e2,A5 (by omega) (by omega)]
theorem A0f (v n:Int) (h0:0<n) (h1:n≤9223372036854775807) (st:St):S P 22 [eI v,eI n] st fun r st'=>r=eI (B5 v n)∧st'=st:=by
 refine F4 [] Tryz.func22 ?_
 rw [D6L (show ¬ IntKind.u64.wrap n=0 by rw [C0F];omega)];conv=>whnf
 refine ⟨?_,rfl⟩
 rw [←C4a v h0 h1];rfl
theorem P4 (v n:Int) (h0:0<n) (h1:n≤9223372036854775807) (st:St):S P 24 [eI v,eI n] st fun r st'=>r=eI (B5 v n)∧st'=st:=by
 refine F4 [] Tryz.func24 ?_
 rw [D6L (show ¬ IntKind.u64.wrap n=0 by rw [C0F];omega)];conv=>whnf
 refine ⟨?_,rfl⟩
 rw [←C4a v h0 h1];rfl
def Z3 (c:Int):C8:=B2B [IntKind.u8.wrap c]
def A1l (n:Int):C8:=Z3 (97+B5 n 8)
def A5K (n:Int):C8:=Z3 (120+B5 n 3)
def idN (n:Int):C8:=(⟨#[112]⟩:C8)++Z3 (48+B5 n 10)
def A5A (n:Int):C8:=(⟨#[99]⟩:C8)++Z3 (48+B5 n 3)
theorem B2L (c x:Int):IntKind.u8.wrap (c+IntKind.u8.wrap x)=IntKind.u8.wrap (c+x):=by
 show (c+x % 256) % 256=(c+x) % 256
 omega
theorem C4Y (n:Int) (st:St):S P 36 [eI n] st fun r st'=>r=eS (A1l n)∧st'=st:=by
 refine F4 [] Tryz.func36 ?_
 refine I2 (A0f n 8 (by decide) (by decide) _) ?_
 refine ⟨?_,rfl⟩
 show AV.str (B2B [IntKind.u8.wrap (97+IntKind.u8.wrap (B5 n 8))])=_
 rw [B2L];rfl
theorem A5b (n:Int) (st:St):S P 155 [eI n] st fun r st'=>r=eS (A5K n)∧st'=st:=by
 refine F4 [] Tryz.func155 ?_
 refine I2 (A0f n 3 (by decide) (by decide) _) ?_
 refine ⟨?_,rfl⟩
 show AV.str (B2B [IntKind.u8.wrap (120+IntKind.u8.wrap (B5 n 3))])=_
 rw [B2L];rfl
theorem D3Z (n:Int) (st:St):S P 207 [eI n] st fun r st'=>r=eS (idN n)∧st'=st:=by
 refine F4 [] Tryz.func207 ?_
 refine I2 (A0f n 10 (by decide) (by decide) _) ?_
 refine ⟨?_,rfl⟩
 show AV.str ((⟨#[112]⟩:C8)++B2B [IntKind.u8.wrap (48+IntKind.u8.wrap (B5 n 10))])=_
 rw [B2L];rfl
theorem C3t (n:Int) (st:St):S P 113 [eI n] st fun r st'=>r=eS (A5A n)∧st'=st:=by
 refine F4 [] Tryz.func113 ?_
 refine I2 (A0f n 3 (by decide) (by decide) _) ?_
 refine ⟨?_,rfl⟩
 show AV.str ((⟨#[99]⟩:C8)++B2B [IntKind.u8.wrap (48+IntKind.u8.wrap (B5 n 3))])=_
 rw [B2L];rfl
def B4T (s:C8):Nat→Int
 | 0=>s.size
 | i+1=>IntKind.i64.wrap (IntKind.i64.wrap (7 * B4T s i)+chr s i)
def A2Q (s:C8):Int:=B4T s (min s.size 8)
theorem C3q (s:C8) (i:Nat):0≤chr s i∧chr s i<256:=by
 unfold chr;split
 ·rename_i h;have:=(s[i]'h).toNat_lt;omega
 ·omega
theorem B1T (s:C8) (st:St):S P 114 [eS s] st fun r st'=>r=eI (A2Q s)∧st'=st:=by
 refine F4 [] Tryz.func114 ?_
 refine lp (min s.size 8) [0,3,4] (fun i vs t=>vs=[eS s,eI (B4T s i),eI i]∧t=st) ?_ ?_
 ·conv=>whnf
  exact ⟨rfl,rfl⟩
 ·rintro i vs t hi ⟨rfl,rfl⟩
  conv=>whnf
  refine B9 (fun h1=>?_) (fun h1=>?_)<;>rw [h1]<;>simp only [D6F,D6E] at h1
  ·conv=>whnf
   refine B9 (fun h2=>?_) (fun h2=>?_)<;>rw [h2]<;>simp only [D6F,D6E] at h2
   ·have hi':i<min s.size 8:=by omega
    conv=>whnf
    refine C6y (i:=i) rfl (by omega) ?_;conv=>whnf
    refine G2 ?_
    refine nx hi' ⟨?_,rfl⟩
    rw [B4 (by omega)]
    have hc:IntKind.i64.wrap (chr s i)=chr s i:=A5 (by have:=C3q s i;omega) (by have:=C3q s i;omega)
    show [eS s,eI (IntKind.i64.wrap (IntKind.i64.wrap (7 * B4T s i)+IntKind.i64.wrap (chr s i))),eI ((i+1:Nat):Int)]=_
    rw [hc];rfl
   ·obtain rfl:i=min s.size 8:=by omega
    conv=>whnf
    exact ⟨rfl,rfl⟩
  ·obtain rfl:i=min s.size 8:=by omega
   conv=>whnf
   exact ⟨rfl,rfl⟩
def C3E (r:D6):Bool:=decide ((r.items.length:Int)<60)&&decide ((r.promos.length:Int)<30)&&decide ((r.tax.zones.length:Int)<30)&&decide ((r.policy.order.length:Int)<30)&&decide ((r.policy.credit.length:Int)<30)
theorem C9S (r:D6) (st:St):S P 43 [F7 r] st fun v st'=>v=.bool (C3E r)∧st'=st:=by
 refine SyW [1] Tryz.func43 ?_
 unfold C3E
 repeat' ((conv=>whnf);first | (refine B9 (fun h=>?_) (fun h=>?_)<;>rw [h]))
 all_goals (conv=>whnf)
 all_goals exact ⟨by simp only [D6Y,D7c];rfl,rfl⟩
def A6y (l:List C8) (most:Nat) (kinds:Int) (name:Int→C8) (out:List C8) (k:Nat):List C8 :=
 if (decide (out.length<most)&&(l.take 4).any fun s=>B5 (A2Q s) kinds==k)=true then out++[name k] else out
def S8 (l:List C8) (most:Nat) (kinds:Int) (name:Int→C8) (k:Nat):List C8:=(List.range k).foldl (A6y l most kinds name) []
theorem A6z (l:List C8) (most:Nat) (kinds:Int) (name:Int→C8) (k:Nat):S8 l most kinds name (k+1)=A6y l most kinds name (S8 l most kinds name k) k:=by
 unfold S8;rw [D8m,D8H];rfl
theorem B9g (l:List C8) (most:Nat) (kinds:Int) (name:Int→C8) (k:Nat):(S8 l most kinds name k).length≤k:=by
 induction k with
 | zero=>exact D6M _
 | succ k ih =>
  rw [A6z];unfold A6y
  split
  ·rw [D6P];show _+1≤_;omega
  ·omega
theorem B9h (l:List C8) (most kinds:Nat) (name:Int→C8) (g:FuncId) (hk:0<kinds) (hk2:kinds≤100) (hg:∀ (n:Int) (st:St),S P g [eI n] st fun v st'=>v=eS (name n)∧st'=st) (st:St) :
  S P 112 [C7 l,eI most,eI kinds,.fn (.func g) [] []] st fun v st'=>v=C7 (S8 l most kinds name kinds)∧st'=st:=by
 refine A0L (ty:=9) ?_
 refine F4 [] Tryz.func112 ?_
 refine lp kinds [0,1,2,3,9,10] (fun k vs s=>∃ sv,vs=[C7 l,eI most,eI kinds,.fn (.func g) [] [],sv,eI k]∧E6 9 1 eS (S8 l most kinds name k) st sv s) ?_ ?_
 ·conv=>whnf
  exact ⟨.emp,rfl,E6.start _ _ _ _⟩
 ·rintro k vs s hk1 ⟨sv,rfl,hc⟩
  conv=>whnf
  cases hd:decide ((k:Int)<(kinds:Int))
  ·obtain rfl:=C5 hd hk1
   conv=>whnf
   exact hc
  ·have hk':=E2 hd
   have hlen:=B9g l most kinds name k
   have hS:=A6z l most kinds name k
   unfold A6y at hS;conv=>whnf
   refine lp (min l.length 4) [0,1,2,3,9,10,11] (fun i vs t=>(∀ j,j<i→(B5 (A2Q (l.getD j default)) kinds==k)=false)∧vs=[C7 l,eI most,eI kinds,.fn (.func g) [] [],sv,eI k,eI i]∧t=s) ?_ ?_
   ·conv=>whnf
    exact ⟨fun j hj=>absurd hj (by omega),rfl,rfl⟩
   ·rintro i vs t hi ⟨hok,rfl,rfl⟩
    have hstop:i=min l.length 4→((l.take 4).any fun s=>B5 (A2Q s) kinds==k)=false:=fun e=>by
     refine D7R.2 fun x hx=>?_
     obtain ⟨j,hj,rfl⟩:=D5 hx
     rw [D6N] at hj
     rw [show (l.take 4).getD j default=l.getD j default by rw [D6D,D6D,D6S (by omega)],hok j (by omega)]
     simp
    have hsv:(sv=.emp∧(S8 l most kinds name k).length=0)∨∃ b,sv=.own 1 b 0 (S8 l most kinds name k).length:=by
     rcases hc with ⟨h0,h1,_⟩ | ⟨_,b,_,_,h1,_⟩
     ·exact .inl ⟨h1,h0⟩
     ·exact .inr ⟨b,h1⟩
    have hrun:∀ {t':St} {sv':AV},E6 9 1 eS (S8 l most kinds name (k+1)) st sv' t'→∃ sv,[C7 l,eI most,eI kinds,.fn (.func g) [] [],sv',eI (IntKind.i64.wrap ((k:Int)+1))]=[C7 l,eI most,eI kinds,.fn (.func g) [] [],sv,eI ((k+1:Nat):Int)]∧E6 9 1 eS (S8 l most kinds name (k+1)) st sv t':=fun {t' sv'} h=>⟨sv',by rw [B4 (by omega)],h⟩
    conv=>whnf
    refine B9 (fun h1=>?_) (fun h1=>?_)<;>rw [h1]<;>simp only [D6F,D6E] at h1
    ·conv=>whnf
     refine B9 (fun h2=>?_) (fun h2=>?_)<;>rw [h2]<;>simp only [D6F,D6E] at h2
     ·have hi':i<min l.length 4:=by omega
      rcases hsv with ⟨rfl,hl0⟩ | ⟨b,rfl⟩
      all_goals
       conv=>whnf
       refine B9 (fun h3=>?_) (fun h3=>?_)<;>rw [h3]<;>simp only [D6F,D6E] at h3
       ·conv=>whnf
        refine E7 ?_
        refine I2 (B1T _ _) ?_
        refine I2 (A0f _ (kinds:Int) (by omega) (by omega) _) ?_
        cases h4:(B5 (A2Q (l.getD (i:Int).toNat default)) (kinds:Int)==(k:Int))
        ·conv=>whnf
         refine G2 ?_
         exact nx hi' ⟨H5 hok h4,by rw [B4 (by omega)],rfl⟩
        ·have hm:(decide ((S8 l most kinds name k).length<most)&&(l.take 4).any fun s=>B5 (A2Q s) kinds==k)=true:=by
          rw [D6I,D6F,D8r]
          refine ⟨by omega,l.getD (i:Int).toNat default,?_,h4⟩
          rw [show l.getD (i:Int).toNat default=(l.take 4).getD i default by rw [D6D,D6D,D6S (by omega)];rfl]
          exact A7 (by rw [D6N];omega)
         rw [if_pos hm] at hS;conv=>whnf
         refine I2 (hg _ _) ?_
         refine E6.app (q:=r9) rfl rfl rfl rfl rfl (by rfl) (by show ((S8 l most kinds name k).length+1) * 16≤140737488355328;omega) hc (fun sv' t' hc'=>?_);conv=>whnf
         refine G2 ?_
         exact nx hk' (hrun (by rw [hS];exact hc'))
       ·rw [if_neg (by rw [D6L (by omega)];simp)] at hS;conv=>whnf
        refine G2 ?_
        exact nx hk' (hrun (by rw [hS];exact hc))
     ·rw [if_neg (by rw [hstop (by omega)];simp)] at hS;conv=>whnf
      refine G2 ?_
      exact nx hk' (hrun (by rw [hS];exact hc))
    ·rw [if_neg (by rw [hstop (by omega)];simp)] at hS;conv=>whnf
     refine G2 ?_
     exact nx hk' (hrun (by rw [hS];exact hc))
def Q5 (s:W4):W4:=⟨S8 s.skus 3 8 A1l 8,S8 s.cats 2 3 A5K 3⟩
theorem B6P (s:W4) (st:St):S P 208 [A3Y s] st fun v st'=>v=A3Y (Q5 s)∧st'=st:=by
 have h1:=fun st=>B9h s.skus 3 8 A1l 36 (by decide) (by decide) C4Y st
 have h2:=fun st=>B9h s.cats 2 3 A5K 155 (by decide) (by decide) A5b st
 unfold Q5
 generalize S8 s.skus 3 8 A1l 8=a at h1 ⊢
 generalize S8 s.cats 2 3 A5K 3=b at h2 ⊢
 refine A0Q ?_
 refine F4 [1] Tryz.func208 ?_
 intro b2 hb;conv=>whnf
 refine ⟨[7],[],List.range 8,by kernel_rfl,?_⟩;conv=>whnf
 refine cqW (h1 _) ?_
 refine cqW (h2 _) ?_
 refine Z7 (A0 ..) rfl ?_
 refine J6 (A0 ..) (A4 ..) ?_
 exact ⟨rfl,((F1.refl st).upd hb).over hb⟩
def I1 (l:List C8):List C8:=S8 l 3 3 A5A 3
theorem B6F (l:List C8) (st:St):S P 53 [C7 l] st fun v st'=>v=C7 (I1 l)∧st'=st:=by
 refine F4 [] Tryz.func53 ?_
 refine I2 (B9h l 3 3 A5A 113 (by decide) (by decide) C3t _) ?_
 exact ⟨rfl,rfl⟩
def A6r (x:E8):E8:=⟨A1l (A2Q x.sku),B5 x.qty 10,B5 x.price 4000⟩
def A6Z (l:List E8):List E8:=(l.take 8).map A6r
def O1 (l:List Ab.Item) (k:Nat):Ab.Item :=
 if k<l.length then ⟨A1l k,A5K (A2Q (l.getD k default).cat),B5 (l.getD k default).price 4000,(l.getD k default).final&&k==7⟩ else ⟨A1l k,A5K k,100+37 * k,false⟩
def G3 (l:List Ab.Item):List Ab.Item:=(List.range 8).map (O1 l)
theorem A6i {α : Type} (f:Nat→α) (k:Nat):(List.range (k+1)).map f=(List.range k).map f++[f k]:=by rw [D8m,D7k];rfl
theorem B6H (l:List Ab.Item) (st:St):S P 100 [A8 4 E9 l] st fun v st'=>v=A8 4 E9 (G3 l)∧st'=st:=by
 refine S.post (post:=fun v st'=>∃ base,F1 st base∧E6 86 4 E9 (G3 l) base v st') ?_ (fun v st' ⟨base,hs,hc⟩=>⟨_,st,⟨rfl,rfl⟩,hc.shift.trans (hs.shift _)⟩)
 refine F4 [] Tryz.func100 ?_
 refine lp 8 [0,3,4] (fun k vs s=>∃ sv base,vs=[A8 4 E9 l,sv,eI k]∧F1 st base∧E6 86 4 E9 ((List.range k).map (O1 l)) base sv s) ?_ ?_
 ·conv=>whnf
  exact ⟨.emp,st,rfl,F1.refl _,E6.start _ _ _ _⟩
 ·rintro k vs s hk ⟨sv,base,rfl,hsup,hc⟩
  conv=>whnf
  refine B9 (fun h1=>?_) (fun h1=>?_)<;>rw [h1]<;>simp only [D6F,D6E] at h1
  ·have hk':k<8:=by omega
   have hnext:=A6i (O1 l) k
   have hlen:((List.range k).map (O1 l)).length=k:=by rw [D6J,D7g]
   have w1:IntKind.i64.wrap (100+IntKind.i64.wrap (37 * (k:Int)))=100+37 * (k:Int):=by
    rw [A5 (x:=37 * (k:Int)) (by omega) (by omega),A5 (by omega) (by omega)]
   conv=>whnf
   refine I2 (C4Y _ _) ?_
   refine I2 (A5b _ _) ?_
   intro b hb;conv=>whnf
   refine stU (A0 ..) rfl ?_
   rw [C0]
   have hbb:base b=none:=Col.off hc hb
   have hc1:=fun y=>Col.under (y:=y) hc hb
   have hend:∀ {t:St} {Y:K4} {x:AV} {g:Nat→AV} {K:KK},t=upd s b Y→A0g 4 t x=some (1,g)→g 0=E9 (O1 l k)→(∀ sv' t',E6 86 4 E9 ((List.range (k+1)).map (O1 l)) (upd base b Y) sv' t'→K sv' t')→A5L T 22 sv x t K:=fun {t Y x g K} e hs hg hk=>by
    subst e
    refine E6.app (q:=r86) rfl rfl rfl rfl hs hg (by rw [hlen];show (k+1) * 48≤140737488355328;omega) (hc1 Y) (fun sv' t' hc'=>hk sv' t' ?_)
    rw [hnext];exact hc'
   conv=>whnf
   refine B9 (fun h2=>?_) (fun h2=>?_)<;>rw [h2]<;>simp only [D6F,D6E] at h2
   ·have hi:k<l.length:=by omega
    have hp:O1 l k=⟨A1l k,A5K (A2Q (l.getD (k:Int).toNat default).cat),B5 (l.getD (k:Int).toNat default).price 4000,(l.getD (k:Int).toNat default).final&&k==7⟩:=by unfold O1;rw [if_pos hi];rfl
    conv=>whnf
    refine ⟨[23,25,27],[],List.range 28,by kernel_rfl,?_⟩;conv=>whnf
    refine E7 ?_
    refine cqW (B1T _ _) ?_
    refine cqW (A5b _ _) ?_
    refine E7 ?_
    refine cqW (P4 _ 4000 (by decide) (by decide) _) ?_
    refine E7 ?_
    refine B9 (fun h3=>?_) (fun h3=>?_)<;>rw [h3] at hp ⊢
    all_goals
     conv=>whnf
     refine stU (A0 ..) (A4 ..) ?_
     rw [C0];conv=>whnf
     refine stU (A0 ..) (A4 ..) ?_
     rw [C0];conv=>whnf
     refine stU (A0 ..) (A4 ..) ?_
     rw [C0];conv=>whnf
     refine J6 (A0 ..) (A4 ..) ?_
     refine hend rfl rfl (by rw [hp];first | rfl | (have e7:((k:Int)==7)=(k==7):=by rw [D9J,D7B,D7B];omega
                                                    rw [D6Y,←e7];rfl)) (fun sv' t' hc'=>?_)
     conv=>whnf
     refine G2 ?_
     exact nx hk' ⟨sv',_,by rw [B4 (by omega)],hsup.upd hbb,hc'⟩
   ·have hi:¬ k<l.length:=by omega
    have hp:O1 l k=⟨A1l k,A5K k,100+37 * k,false⟩:=by unfold O1;rw [if_neg hi]
    conv=>whnf
    refine J6 (A0 ..) (A4 ..) ?_
    refine hend rfl rfl (by rw [hp];show AV.agg _=_;rw [w1];rfl) (fun sv' t' hc'=>?_);conv=>whnf
    refine G2 ?_
    exact nx hk' ⟨sv',_,by rw [B4 (by omega)],hsup.upd hbb,hc'⟩
  ·obtain rfl:k=8:=by omega
   conv=>whnf
   exact ⟨base,hsup,hc⟩
end Go.Proofs.YtaapofnkmpiknaaGreat
namespace Go.Ab
open Go
theorem S.lend {P:Program} {f:FuncId} {args args':List AV} {st:St} {q q':AV→Prop} (h:S P f args' st0 fun v s=>q v∧s=st0) (hs:A6 args st args' st0)
  (hq:∀ v c rd sz,q v→Rep rd sz v c→∃ v',q' v'∧∀ rd' sz',Rep rd' sz' v' c):S P f args st fun v s=>q' v∧s=st :=
 ⟨h.1,fun cargs w hr hS=>by
  obtain ⟨h1,h2,h3⟩:=hs w cargs hS hr
  refine (h.2 cargs w h2 h1).mono fun e w' ⟨v,c,s,⟨hqv,hs0⟩,he,hrep,hS',hE⟩=>?_
  subst hs0
  obtain ⟨v',hq',hsol⟩:=hq v c _ _ hqv hrep
  have hE2:Evo st w st w':=⟨hE.os,hE.tape,hE.output,hE.size,fun b hb hn=>⟨(hE.blk b hb rfl).1,hn⟩,hE.szm⟩
  refine ⟨v',c,st,⟨hq',rfl⟩,he,hsol _ _,fun b x hb=>?_,hE2⟩
  obtain ⟨cs,hc⟩:=hS b x hb
  have heap:=(hE.blk b (I3.lt hS hb) rfl).1
  exact ⟨cs,by rw [heap];exact hc.heap,hc.size,hc.len,hc.one,fun i j y hi hy=>by
   obtain ⟨v,hv,hr⟩:=hc.cell i j y hi hy
   exact ⟨v,hv,hE2.rep hr⟩⟩⟩
def So (y y':AV):Prop:=∀ rd sz rd' sz' c,Rep rd sz y c→Rep rd' sz' y' c
inductive SoL:List AV→List AV→Prop
 | nil:SoL [] []
 | cons {a b:AV} {l m:List AV} (h:So a b) (k:SoL l m):SoL (a::l) (b::m)
theorem SoL.len {l m:List AV} (h:SoL l m):l.length=m.length:=by
 induction h with
 | nil=>rfl
 | cons _ _ ih=>simp [ih]
theorem SoL.get {l m:List AV} (h:SoL l m):∀ (j:Nat) (y':AV),m[j]?=some y'→∃ y,l[j]?=some y∧So y y':=by
 induction h with
 | nil=>intro j y' hj;simp at hj
 | cons h k ih =>
  intro j y' hj
  cases j with
  | zero=>simp at hj;subst hj;exact ⟨_,rfl,h⟩
  | succ j=>simp at hj;simpa using ih j y' hj
theorem So.int (k:IntKind) (n:Int):So (.int k n) (.int k n):=fun _ _ _ _ c h=>by cases h;exact .int _ _
theorem So.bool (b:Bool):So (.bool b) (.bool b):=fun _ _ _ _ c h=>by cases h;exact .bool _
theorem So.str (b:ByteArray):So (.str b) (.str b):=fun _ _ _ _ c h=>by cases h;exact .str _
theorem So.junk (y:AV):So y .junk:=fun _ _ _ _ c _=>.junk c
def noA (n:Nat):AV:=.arr 0 n fun _=>.agg []
theorem So.arr (e n:Nat) (f:Nat→AV):So (.arr e n f) (noA n):=fun _ _ _ _ c h=>by
 cases h with
 | arr e n f A c g hc hA hl ho hr hg =>
  exact .arr _ _ _ A c (fun _ _=>undef) hc hA (fun i hi=>rfl) (fun i hi=>rfl) (fun a ha i j hi hj=>absurd hj (by omega)) (fun i j y hi hy=>by simp [cellsOf] at hy)
theorem So.agg {l m:List AV} (h:SoL l m):So (.agg l) (.agg m):=fun _ _ _ _ c hr=>by
 cases hr with
 | agg cs vs hl hg =>
  refine .agg _ _ (by rw [←h.len];exact hl) fun j y c hy hc=>?_
  obtain ⟨y0,h1,h2⟩:=h.get j y hy
  exact h2 _ _ _ _ _ (hg j y0 c h1 hc)
theorem So.tuple {l m:List AV} (h:SoL l m):So (.tuple l) (.tuple m):=fun _ _ _ _ c hr=>by
 cases hr with
 | tuple cs vs hl hg =>
  refine .tuple _ _ (by rw [←h.len];exact hl) fun j y c hy hc=>?_
  obtain ⟨y0,h1,h2⟩:=h.get j y hy
  exact h2 _ _ _ _ _ (hg j y0 c h1 hc)
theorem S.lends {P:Program} {f:FuncId} {args args':List AV} {st:St} {q q':AV→Prop} (h:S P f args' st0 fun v s=>q v∧s=st0) (hs:A6 args st args' st0)
  (hq:∀ v,q v→∃ v',q' v'∧So v v'):S P f args st fun v s=>q' v∧s=st :=
 S.lend h hs fun v c rd sz hv hr=>by
  obtain ⟨v',h1,h2⟩:=hq v hv
  exact ⟨v',h1,fun rd' sz'=>h2 _ _ _ _ _ hr⟩
theorem C7A (st:St):F1 st0 st:=fun b x h=>by cases h
def Le (y y':AV):Prop:=∀ rd sz c,Rep rd sz y c→Rep rd sz y' c
inductive F0:List AV→List AV→Prop
 | nil:F0 [] []
 | cons {a b:AV} {l m:List AV} (h:Le a b) (k:F0 l m):F0 (a::l) (b::m)
theorem Le.refl (y:AV):Le y y:=fun _ _ _ h=>h
theorem F0.refl:∀ l:List AV,F0 l l
 | []=>.nil
 | a::l=>.cons (Le.refl a) (F0.refl l)
theorem F0.len {l m:List AV} (h:F0 l m):l.length=m.length:=by
 induction h with
 | nil=>rfl
 | cons _ _ ih=>simp [ih]
theorem F0.get {l m:List AV} (h:F0 l m):∀ (j:Nat) (y':AV),m[j]?=some y'→∃ y,l[j]?=some y∧Le y y':=by
 induction h with
 | nil=>intro j y' hj;simp at hj
 | cons h k ih =>
  intro j y' hj
  cases j with
  | zero=>simp at hj;subst hj;exact ⟨_,rfl,h⟩
  | succ j=>simp at hj;simpa using ih j y' hj
theorem Le.emp (e:Nat) (f:Nat→AV):Le .emp (.arr e 0 f):=fun rd sz c h=>B9Q e f h
theorem Le.agg {l m:List AV} (h:F0 l m):Le (.agg l) (.agg m):=fun rd sz c hr=>by
 cases hr with
 | agg cs vs hl hg =>
  refine .agg _ _ (by rw [←h.len];exact hl) fun j y c hy hc=>?_
  obtain ⟨y0,h1,h2⟩:=h.get j y hy
  exact h2 _ _ _ (hg j y0 c h1 hc)
theorem Le.arr {e n:Nat} {f g:Nat→AV} (h:∀ i,i<n→F0 (cellsOf (f i)) (cellsOf (g i))∧(cellsOf (g i)).all AV.one=true):Le (.arr e n f) (.arr e n g):=fun rd sz c hr=>by
 cases hr with
 | arr e n f A c g' hc hA hl ho hrd hg =>
  refine .arr _ _ _ A c g' hc hA (fun i hi=>by rw [←(h i hi).1.len];exact hl i hi) (fun i hi=>(h i hi).2) hrd fun i j y hi hy=>?_
  obtain ⟨y0,h1,h2⟩:=(h i hi).1.get j y hy
  exact h2 _ _ _ (hg i j y0 hi h1)
theorem Le.arr1 {e:Nat} {f g:Nat→AV} (h:F0 (cellsOf (f 0)) (cellsOf (g 0))) (h1:(cellsOf (g 0)).all AV.one=true):Le (.arr e 1 f) (.arr e 1 g):=Le.arr fun i hi=>by
 obtain rfl:i=0:=by omega
 exact ⟨h,h1⟩
theorem Le.shift {v v':AV} (h:Le v v') (st:St):A6 [v] st [v'] st:=A6.one fun w c hS hr=>⟨hS,Evo.refl _ _,h _ _ _ hr⟩
end Go.Ab
namespace Go.Proofs.YtaapofnkmpiknaaGreat
open Go Go.Ab
def A9o (t:Tax) (rate:Int):Int:=10000+(if t.incl=true then rate else 0)
def N6 (t:Tax) (x rate:Int):Int:=(W7 x rate (A9o t rate) t.round).1
theorem C1Y {q r den round x:Int} (h:q * den+r≤x * den) (h0:0≤r) (h1:r<den):q≤x∧U1 q r den round≤x:=by
 have hq:q≤x:=by
  rcases Int.lt_or_le x q with e | e
  ·have:(x+1) * den≤q * den:=D8C (by omega) (by omega)
   rw [D9j,Int.one_mul] at this;omega
  ·exact e
 refine ⟨hq,?_⟩
 by_cases e:q=x
 ·subst e
  have hr:r=0:=by omega
  subst hr
  unfold U1
  split
  ·omega
  ·split
   ·split<;>omega
   ·split
    ·rename_i h2;omega
    ·omega
 ·unfold U1
  split
  ·omega
  ·split<;>split<;>omega
theorem C1X {q r den round:Int} (h:0≤q):0≤U1 q r den round:=by
 unfold U1
 split
 ·omega
 ·split<;>split<;>omega
theorem B7x {x num den round:Int} (hx:0≤x) (hn:0≤num) (hd:num≤den) (h0:0<den):0≤(W7 x num den round).1∧(W7 x num den round).1≤x:=by
 have h1:0≤x * num:=D8d hx hn
 have h2:x * num≤x * den:=D7y hd hx
 have e1:=D7M (x * num) den
 have e2:=D8a (x * num) (show den≠0 by omega)
 have e3:=D7N (x * num) h0
 have e4:0≤x * num / den:=D8l h1 (by omega)
 have h3:=C1Y (q:=x * num / den) (r:=x * num % den) (den:=den) (round:=round) (x:=x) (by rw [D8T (x * num / den) den];omega) e2 e3
 have h4:=C1X (q:=x * num / den) (r:=x * num % den) (den:=den) (round:=round) e4
 unfold W7
 split
 ·exact ⟨D7l _,hx⟩
 ·split
  ·exact ⟨D7l _,hx⟩
  ·split
   ·exact ⟨D7l _,hx⟩
   ·exact ⟨h4,h3.2⟩
theorem A2Z {t:Tax} {x rate:Int} (hx:0≤x) (hr:0≤rate∧rate≤10000):0≤N6 t x rate∧N6 t x rate≤x:=by
 refine B7x hx hr.1 ?_ ?_
 ·unfold A9o;split<;>omega
 ·unfold A9o;split<;>omega
def Z8 (l:List K3) (s:C8):Option K3:=l.find? fun z=>z.name.toList==s.toList
def F3 (z:K3) (c:C8):Int:=match z.rates.find? (fun x=>x.cat.toList==c.toList) with
 | some x=>x.rate
 | none=>z.rest
theorem A4M {z:K3} (h:Y6 z=true):(0≤z.rest∧z.rest≤10000)∧(0≤z.ship∧z.ship≤10000)∧z.rates.length≤40∧∀ x∈z.rates,0≤x.rate∧x.rate≤10000:=by
 unfold Y6 at h
 simp only [D6I,D6X,D7Q,D6E,D7q] at h
 obtain ⟨⟨⟨⟨h1,h2⟩,h3⟩,h4⟩,h5,h6⟩:=h
 refine ⟨E0.1 h2,E0.1 h3,by omega,fun x hx=>?_⟩
 obtain ⟨k,hk,rfl⟩:=D5 hx
 have:=A4q.1 h5 k hk
 unfold A4D at this
 simp only [D6X,D7Q,D7q] at this
 exact E0.1 this.2
theorem B6W {z:K3} (h:Y6 z=true) (c:C8):0≤F3 z c∧F3 z c≤10000:=by
 obtain ⟨h1,h2,h3,h4⟩:=A4M h
 unfold F3
 split
 ·rename_i x hx;exact h4 x (D9e hx)
 ·exact h1
def X5 (t:Tax) (rates nets:List Int):List Int:=(List.range nets.length).map fun i=>N6 t (gI nets i) (gI rates i)
def A8B (rates:List Int) (i:Nat):List Nat:=(List.range rates.length).filter fun k=>gI rates k==gI rates i
def I8 (rates nets:List Int) (i:Nat):List Int:=(A8B rates i).map (gI nets)
def A0B (rates:List Int) (i:Nat):Nat:=((List.range i).filter fun k=>gI rates k==gI rates i).length
def A1H (t:Tax) (rates nets:List Int) (i:Nat):Int:=gI (D2 (N6 t (A2 (I8 rates nets i)) (gI rates i)) (I8 rates nets i)) (A0B rates i)
def H0 (t:Tax) (rates nets:List Int):List Int:=(List.range nets.length).map (A1H t rates nets)
def K7 (t:Tax) (rates nets:List Int):List Int:=if t.byOrder=true then H0 t rates nets else X5 t rates nets
structure A4Q (nets:List Int):Prop where
 len:nets.length≤1000
 pos:∀ x∈nets,0≤x
 sum:A2 nets≤10000000000000
theorem B2C {a b:List Int} (hs:a.Sublist b) (hb:∀ x∈b,0≤x):A2 a≤A2 b:=by
 induction hs with
 | slnil=>exact D7l _
 | cons x _ ih =>
  have h1:=ih fun u hu=>hb u (D7d _ hu)
  have h2:=hb x (D7f ..)
  rw [J7];omega
 | cons_cons x _ ih =>
  have h1:=ih fun u hu=>hb u (D7d _ hu)
  rw [J7,J7];omega
theorem A6u (l:List Int):(List.range l.length).map (gI l)=l:=by
 refine D9a (by rw [D6J,D7g]) fun i h1 h2=>?_
 rw [List.getElem_map,List.getElem_range];unfold gI;rw [D6D,D6K h2];rfl
theorem A6j {rates nets:List Int} (hn:A4Q nets) (hr:rates.length=nets.length) (i:Nat):(I8 rates nets i).length≤1000∧(∀ x∈I8 rates nets i,0≤x)∧0≤A2 (I8 rates nets i)∧A2 (I8 rates nets i)≤10000000000000:=by
 have hsub:(I8 rates nets i).Sublist nets:=by
  have h1:(I8 rates nets i).Sublist ((List.range nets.length).map (gI nets)):=by
   unfold I8 A8B
   rw [hr]
   exact D8F.map _
  rw [A6u] at h1;exact h1
 have hp:∀ x∈I8 rates nets i,0≤x:=fun x hx=>hn.pos x (hsub.subset hx)
 have h2:=hsub.length_le
 have h3:=hn.len
 have h4:=B2C hsub hn.pos
 have h5:=hn.sum
 exact ⟨by omega,hp,C1 hp,by omega⟩
theorem A2Y {t:Tax} {rates nets:List Int} (hn:A4Q nets) (hr:rates.length=nets.length) {i:Nat} (hq:0≤gI rates i∧gI rates i≤10000):R3 (N6 t (A2 (I8 rates nets i)) (gI rates i)) (I8 rates nets i):=by
 obtain ⟨h1,h2,h3,h4⟩:=A6j hn hr i
 have hm:=A2Z (t:=t) h3 hq
 exact ⟨hm.1,by omega,by omega,h2,by omega,fun e=>by rw [e] at hm;rw [e];omega⟩
theorem C1R {n i:Nat} (hi:i<n):List.range n=List.range i++(i::(List.range (n - i - 1)).map (fun k=>i+1+k)):=by
 have h1:n=i+(1+(n - i - 1)):=by omega
 conv=>lhs;rw [h1]
 rw [List.range_add,show 1+(n - i - 1)=(n - i - 1)+1 by omega,List.range_succ_eq_map]
 simp only [D7H,D8Y,D8X]
 congr 2
 refine D7V fun k _=>?_
 show i+(k+1)=i+1+k
 omega
theorem A8C {rates:List Int} {i:Nat} (hi:i<rates.length):(A8B rates i)[A0B rates i]?=some i:=by
 unfold A0B A8B
 rw [C1R hi,D8A,D7a (D6M _),Nat.sub_self,D7I (by simp)];rfl
theorem B1C {rates:List Int} {i:Nat} (hi:i<rates.length):A0B rates i<(A8B rates i).length:=by
 exact (D6U.1 (A8C hi)).1
theorem B6y {t:Tax} {rates nets:List Int} (hn:A4Q nets) (hr:rates.length=nets.length) (hq:∀ x∈rates,0≤x∧x≤10000) {i:Nat} (hi:i<nets.length):0≤A1H t rates nets i∧A1H t rates nets i≤10000000000000:=by
 have hqi:=hq (gI rates i) (A7 (by omega))
 have hw:=A2Y (t:=t) hn hr hqi
 obtain ⟨h1,h2,h3,h4⟩:=A6j hn hr i
 have hm:=A2Z (t:=t) h3 hqi
 have hp:=B1C (rates:=rates) (i:=i) (by omega)
 have hml:(I8 rates nets i).length=(A8B rates i).length:=D6J ..
 obtain ⟨l1,l2,l3⟩:=T2 hw
 have hle:=A3u hw hm.2 (k:=A0B rates i) (by omega)
 have hg:gI (D2 (N6 t (A2 (I8 rates nets i)) (gI rates i)) (I8 rates nets i)) (A0B rates i)∈D2 (N6 t (A2 (I8 rates nets i)) (gI rates i)) (I8 rates nets i):=A7 (by omega)
 have h0:=l3 _ hg
 have hmem:gI (I8 rates nets i) (A0B rates i)∈I8 rates nets i:=A7 (by omega)
 have h6:=J4 h2 hmem
 unfold A1H
 omega
theorem A6D {t:Tax} {rates nets:List Int} (hn:A4Q nets) (hr:rates.length=nets.length) (hq:∀ x∈rates,0≤x∧x≤10000):(K7 t rates nets).length=nets.length∧∀ x∈K7 t rates nets,0≤x∧x≤10000000000000:=by
 unfold K7
 split
 ·refine ⟨by unfold H0;rw [D6J,D7g],fun x hx=>?_⟩
  obtain ⟨i,hi,rfl⟩:=D6Z.1 hx
  exact B6y hn hr hq (D6T.1 hi)
 ·refine ⟨by unfold X5;rw [D6J,D7g],fun x hx=>?_⟩
  obtain ⟨i,hi,rfl⟩:=D6Z.1 hx
  have hi:=D6T.1 hi
  have h1:=hn.pos _ (show gI nets i∈nets from A7 hi)
  have h2:=A2Z (t:=t) h1 (hq (gI rates i) (A7 (by omega)))
  have h3:=J4 hn.pos (show gI nets i∈nets from A7 hi)
  have h4:=hn.sum
  omega
theorem B6x {t:Tax} {rates nets:List Int} (hn:A4Q nets) (hr:rates.length=nets.length) (hq:∀ x∈rates,0≤x∧x≤10000) {i:Nat} (hi:i<nets.length):A1H t rates nets i≤gI nets i:=by
 have hqi:=hq (gI rates i) (A7 (by omega))
 have hw:=A2Y (t:=t) hn hr hqi
 obtain ⟨h1,h2,h3,h4⟩:=A6j hn hr i
 have hm:=A2Z (t:=t) h3 hqi
 have hp:=B1C (rates:=rates) (i:=i) (by omega)
 have hml:(I8 rates nets i).length=(A8B rates i).length:=D6J ..
 have hle:=A3u hw hm.2 (k:=A0B rates i) (by omega)
 have e:gI (I8 rates nets i) (A0B rates i)=gI nets i:=by
  unfold I8 gI
  rw [D6D,D7C,A8C (by omega)];rfl
 rw [e] at hle
 exact hle
theorem B7v {t:Tax} {rates nets:List Int} (hn:A4Q nets) (hr:rates.length=nets.length) (hq:∀ x∈rates,0≤x∧x≤10000) {i:Nat} (hi:i<nets.length):gI (K7 t rates nets) i≤gI nets i:=by
 unfold K7
 split
 ·have e:gI (H0 t rates nets) i=A1H t rates nets i:=by unfold H0 gI;rw [D6D,D7C,D8i hi];rfl
  rw [e];exact B6x hn hr hq hi
 ·have e:gI (X5 t rates nets) i=N6 t (gI nets i) (gI rates i):=by unfold X5 gI;rw [D6D,D7C,D8i hi];rfl
  rw [e]
  exact (A2Z (hn.pos _ (show gI nets i∈nets from A7 hi)) (hq (gI rates i) (A7 (by omega)))).2
theorem A6B (f g:Nat→Int):∀ n,(∀ i,i<n→f i≤g i)→A2 ((List.range n).map f)≤A2 ((List.range n).map g)
 | 0,_=>D7l _
 | n+1,h=>by
  rw [L7,L7]
  have h1:=A6B f g n fun i hi=>h i (by omega)
  have h2:=h n (by omega)
  omega
structure B7J where
 goods:List Int
 taxes:List Int
 ship:Int
 shipTax:Int
def A2G (t:Tax) (taxes nets:List Int):List Int:=(List.range nets.length).map fun i=>if t.incl=true then gI nets i - gI taxes i else gI nets i
def L4 (t:Tax) (z:K3) (exempt:Bool) (cats:List C8) (nets:List Int) (ship:Int):B7J :=
 ⟨A2G t (K7 t (cats.map (F3 z)) nets) nets,if exempt=true then List.replicate nets.length 0 else K7 t (cats.map (F3 z)) nets,
 if t.incl=true then ship - N6 t ship z.ship else ship,if exempt=true then 0 else N6 t ship z.ship⟩
structure U5 where
 goods:List Int
 taxes:List Int
 ship:Int
 shipTax:Int
 total:Int
 deals:List A1O
end Go.Proofs.YtaapofnkmpiknaaGreat
namespace Go.Proofs.YtaapofnkmpiknaaGreat
open Go Go.Ab
attribute [local irreducible] upd del
def A6f (l:List Int) (out:List Int) (i:Nat):List Int:=if (out.any fun y=>y==1+B5 (gI l i) 5)=true then out else out++[1+B5 (gI l i) 5]
def Q8 (l:List Int) (n:Nat):List Int:=(List.range n).foldl (A6f l) []
theorem A6g (l:List Int) (n:Nat):Q8 l (n+1)=A6f l (Q8 l n) n:=by unfold Q8;rw [D8m,D8H];rfl
theorem B1x (l:List Int) (n:Nat):(Q8 l n).length≤n:=by
 induction n with
 | zero=>exact D6M _
 | succ n ih =>
  rw [A6g];unfold A6f
  split
  ·omega
  ·rw [D6P];show _+1≤_;omega
def O2 (l:List Int):List Int:=Q8 l (min l.length 6)
theorem B2Z (l:List Int) (k:Int) (j:Nat) (hj:j<l.length):((l.take (j+1)).any fun y=>y==k)=((l.take j).any (fun y=>y==k)||(gI l j==k)):=by
 rw [L0 hj,List.any_append];simp
theorem B0f (l:List Int) (st:St):S P 103 [B0 l] st fun v st'=>v=B0 (O2 l)∧st'=st:=by
 refine A0L (ty:=3) ?_
 refine F4 [] Tryz.func103 ?_
 refine lp (min l.length 6) [0,3,4] (fun i vs s=>∃ sv,vs=[B0 l,sv,eI i]∧E6 3 1 eI (Q8 l i) st sv s) ?_ ?_
 ·conv=>whnf
  exact ⟨.emp,rfl,E6.start _ _ _ _⟩
 ·rintro i vs s hi ⟨sv,rfl,hc⟩
  have hlen:=B1x l i
  have hfin:i=min l.length 6→E6 3 1 eI (O2 l) st sv s:=fun e=>by unfold O2;rw [←e];exact hc
  conv=>whnf
  refine B9 (fun h1=>?_) (fun h1=>?_)<;>rw [h1]<;>simp only [D6F,D6E] at h1
  ·conv=>whnf
   refine B9 (fun h2=>?_) (fun h2=>?_)<;>rw [h2]<;>simp only [D6F,D6E] at h2
   ·have hi':i<min l.length 6:=by omega
    have hK:=A6g l i
    unfold A6f at hK
    have hm:=C9 (gI l (i:Int).toNat) (n:=5) (by decide)
    have hw:IntKind.i64.wrap (1+B5 (gI l (i:Int).toNat) 5)=1+B5 (gI l i) 5:=A5 (by omega) (by omega)
    conv=>whnf
    refine E7 ?_
    refine I2 (A0f _ 5 (by decide) (by decide) _) ?_
    rw [hw]
    generalize hkk:1+B5 (gI l i) 5=k at hK
    have hcases:(sv=.emp∧Q8 l i=[])∨∃ b g,sv=.own 1 b 0 (Q8 l i).length∧s b=some ⟨3,1,(Q8 l i).length,g⟩∧∀ j,j<(Q8 l i).length→g j=eI (gI (Q8 l i) j):=by
     rcases hc with ⟨h0,h3,_⟩ | ⟨_,b,g,_,h3,h4,h5⟩
     ·exact .inl ⟨h3,D7n h0⟩
     ·exact .inr ⟨b,g,h3,by rw [h4];exact A0 ..,h5⟩
    refine lp (Q8 l i).length [0,3,4,5,6,7] (fun j vs t=>vs=[B0 l,sv,eI i,eI k,eB (((Q8 l i).take j).any fun y=>y==k),eI j]∧t=s) ?_ ?_
    ·conv=>whnf
     exact ⟨rfl,rfl⟩
    ·rintro j vs t hj ⟨rfl,rfl⟩
     rcases hcases with ⟨rfl,hnil⟩ | ⟨b,g,rfl,hb,hg⟩
     ·have hj0:j=0:=by rw [hnil] at hj;exact Nat.le_zero.1 hj
      subst hj0
      have hK2:Q8 l (i+1)=Q8 l i++[k]:=by rw [hK,if_neg (by rw [hnil];simp)]
      conv=>whnf
      refine E6.app (q:=r3) rfl rfl rfl rfl rfl (by rfl) (by show ((Q8 l i).length+1) * 8≤140737488355328;omega) hc (fun sv' t' hc'=>?_);conv=>whnf
      refine G2 ?_
      exact nx hi' ⟨sv',by rw [B4 (by omega)],by rw [hK2];exact hc'⟩
     ·conv=>whnf
      cases h3:decide ((j:Int)<((Q8 l i).length:Int))
      ·obtain rfl:=C5 h3 hj
       conv=>whnf
       rw [D6O]
       cases h4:(Q8 l i).any fun y=>y==k
       ·rw [if_neg (by rw [h4];simp)] at hK;conv=>whnf
        refine E6.app (q:=r3) rfl rfl rfl rfl rfl (by rfl) (by show ((Q8 l i).length+1) * 8≤140737488355328;omega) hc (fun sv' t' hc'=>?_);conv=>whnf
        refine G2 ?_
        exact nx hi' ⟨sv',by rw [B4 (by omega)],by rw [hK];exact hc'⟩
       ·rw [if_pos h4] at hK;conv=>whnf
        refine G2 ?_
        exact nx hi' ⟨_,by rw [B4 (by omega)],by rw [hK];exact hc⟩
      ·have hj':=E2 h3
       have hsucc:=B2Z (Q8 l i) k j hj'
       conv=>whnf
       cases h4:((Q8 l i).take j).any fun y=>y==k
       ·rw [h4,D7r] at hsucc;conv=>whnf
        refine E7 ?_
        refine ldV hb rfl (by omega) (v:=eI (gI (Q8 l i) (j:Int).toNat)) (by rw [D6Q];exact hg _ (by omega)) ?_;conv=>whnf
        refine G2 ?_
        refine nx hj' ⟨?_,rfl⟩
        rw [B4 (by omega),hsucc];rfl
       ·rw [h4,D7z] at hsucc;conv=>whnf
        refine G2 ?_
        refine nx hj' ⟨?_,rfl⟩
        rw [B4 (by omega),hsucc]
   ·conv=>whnf
    exact hfin (by omega)
  ·conv=>whnf
   exact hfin (by omega)
def B1Y (x:A0S) (least:Int):A0S:=⟨least,B5 x.rate 4000,1+B5 x.amount 300⟩
def Q6 (l:List A0S) (step:Int):Nat→List A0S×Int
 | 0=>([],0)
 | i+1=>((Q6 l step i).1++[B1Y (l.getD i default) ((Q6 l step i).2+B5 (l.getD i default).least step)],(Q6 l step i).2+B5 (l.getD i default).least step+1)
theorem A8a (l:List A0S) (step:Int) (i:Nat):(Q6 l step i).1.length=i:=by
 induction i with
 | zero=>rfl
 | succ i ih=>show (_++[_]).length=_;rw [D6P,ih];rfl
theorem A8Z (l:List A0S) {step:Int} (h:0<step) (i:Nat):0≤(Q6 l step i).2∧(Q6 l step i).2≤i * step:=by
 induction i with
 | zero=>exact ⟨D7l _,by show (0:Int)≤((0:Nat):Int) * step;rw [Int.natCast_zero,D9D];omega⟩
 | succ i ih =>
  have hm:=C9 (l.getD i default).least h
  show 0≤(Q6 l step i).2+B5 (l.getD i default).least step+1∧(Q6 l step i).2+B5 (l.getD i default).least step+1≤_
  rw [show ((i+1:Nat):Int) * step=i * step+step by rw [Int.natCast_add,D9j];simp]
  omega
def P7 (l:List A0S) (step:Int):List A0S:=if l.length=0 then [⟨Int.tdiv step 2,1000,0⟩] else (Q6 l step (min l.length 3)).1
theorem B0g (l:List A0S) (step:Int) (h0:0<step) (h1:step≤5000) (st:St):S P 209 [A8 3 R9 l,eI step] st fun v st'=>v=A8 3 R9 (P7 l step)∧st'=st:=by
 refine A0L (ty:=300) ?_
 refine F4 [] Tryz.func209 ?_
 refine lp (min l.length 3) [0,1,5,6,7] (fun i vs s=>∃ sv,vs=[A8 3 R9 l,eI step,sv,eI (Q6 l step i).2,eI i]∧E6 300 3 R9 (Q6 l step i).1 st sv s) ?_ ?_
 ·conv=>whnf
  exact ⟨.emp,rfl,E6.start _ _ _ _⟩
 ·rintro i vs s hi ⟨sv,rfl,hc⟩
  have hlen:=A8a l step i
  have hle:=A8Z l h0 i
  have hip:(i:Int) * step≤3 * 5000:=D9d (by omega) h1 (by omega) (by omega)
  have hsv:(i=0∧sv=.emp)∨(0<i∧∃ b,sv=.own 3 b 0 i):=by
   rcases hc with ⟨h2,h3,_⟩ | ⟨h2,b,_,_,h3,_⟩
   ·exact .inl ⟨by omega,h3⟩
   ·exact .inr ⟨by omega,b,by rw [h3,hlen]⟩
  have hw2:IntKind.i64.wrap (Int.tdiv step 2)=Int.tdiv step 2:=by
   rw [D7Z (by omega)]
   exact A5 (by omega) (by omega)
  conv=>whnf
  refine B9 (fun h2=>?_) (fun h2=>?_)<;>rw [h2]<;>simp only [D6F,D6E] at h2
  case' refine_1 =>
   conv=>whnf
   refine B9 (fun h3=>?_) (fun h3=>?_)<;>rw [h3]<;>simp only [D6F,D6E] at h3
  case refine_1.refine_1 =>
   have hi':i<min l.length 3:=by omega
   have hm:=C9 (l.getD (i:Int).toNat default).least h0
   have hm2:=C9 (l.getD (i:Int).toNat default).amount (n:=300) (by decide)
   have e1:IntKind.i64.wrap ((Q6 l step i).2+B5 (l.getD (i:Int).toNat default).least step)=(Q6 l step i).2+B5 (l.getD (i:Int).toNat default).least step:=A5 (by omega) (by omega)
   have e2:IntKind.i64.wrap (1+B5 (l.getD (i:Int).toNat default).amount 300)=1+B5 (l.getD (i:Int).toNat default).amount 300:=A5 (by omega) (by omega)
   have e3:IntKind.i64.wrap ((Q6 l step i).2+B5 (l.getD (i:Int).toNat default).least step+1)=(Q6 l step i).2+B5 (l.getD (i:Int).toNat default).least step+1:=A5 (by omega) (by omega)
   conv=>whnf
   refine E7 ?_
   refine I2 (P4 _ step h0 (by omega) _) ?_
   rw [e1]
   refine ⟨[16,17],[],List.range 19,by kernel_rfl,?_⟩;conv=>whnf
   refine E7 ?_
   refine cqW (P4 _ 4000 (by decide) (by decide) _) ?_
   refine E7 ?_
   refine cqW (P4 _ 300 (by decide) (by decide) _) ?_
   rw [e2]
   refine E6.app (y:=B1Y (l.getD (i:Int).toNat default) ((Q6 l step i).2+B5 (l.getD (i:Int).toNat default).least step)) (q:=C7c) rfl rfl rfl rfl rfl (by rfl) (by show ((Q6 l step i).1.length+1) * 24≤140737488355328;omega) hc (fun sv' t' hc'=>?_);conv=>whnf
   rw [e3]
   refine G2 ?_
   exact nx hi' ⟨sv',by rw [B4 (by omega)];rfl,hc'⟩
  all_goals
   have hie:i=min l.length 3:=by omega
   conv=>whnf
   rcases hsv with ⟨rfl,rfl⟩ | ⟨hp,b,rfl⟩
   ·have hl0:l.length=0:=by omega
    have hT:P7 l step=[⟨Int.tdiv step 2,1000,0⟩]:=by unfold P7;rw [if_pos hl0]
    rw [hT];conv=>whnf
    refine E6.app (y:=⟨Int.tdiv step 2,1000,0⟩) (q:=C7c) rfl rfl rfl rfl rfl (by show AV.agg [eI (IntKind.i64.wrap (Int.tdiv step 2)),eI 1000,eI 0]=_;rw [hw2];rfl) (by show (0+1) * 24≤140737488355328;omega) hc (fun sv' t' hc'=>?_);conv=>whnf
    exact hc'
   ·have hT:P7 l step=(Q6 l step i).1:=by unfold P7;rw [if_neg (by omega),hie]
    rw [hT];conv=>whnf
    rw [show ((i:Int)==0)=false by rw [D7p];omega];conv=>whnf
    exact hc
theorem B7l (l:List C8) (most:Nat) (kinds:Int) (name:Int→C8) (k:Nat):∃ ks:List Nat,S8 l most kinds name k=ks.map (fun x:Nat=>name x)∧ks.Pairwise (·<·)∧(∀ x∈ks,x<k)∧ks.length≤most:=by
 induction k with
 | zero=>exact ⟨[],rfl,.nil,⟨fun x hx=>absurd hx D8j,D7e _⟩⟩
 | succ k ih =>
  obtain ⟨ks,h1,h2,h3,h4⟩:=ih
  rw [A6z];unfold A6y
  split
  ·rename_i hc
   rw [D6I,D6F,h1,D6J] at hc
   refine ⟨ks++[k],by rw [h1,D7k];rfl,List.pairwise_append.2 ⟨h2,List.pairwise_singleton _ _,fun a ha b hb=>by rw [D7i] at hb;subst hb;exact h3 a ha⟩,fun x hx=>?_,by rw [D6P];show ks.length+1≤most;omega⟩
   rcases D7T.1 hx with h | h
   ·have:=h3 x h;omega
   ·rw [D7i] at h;omega
  ·exact ⟨ks,h1,h2,fun x hx=>by have:=h3 x hx;omega,h4⟩
theorem A7O {l:List C8} {most:Nat} {kinds:Int} {name:Int→C8} {k:Nat} (hn:∀ x:Nat,x<k→D1 (name x)=true) (hr:∀ x y:Nat,x<y→y<k→slt (name x) (name y)=true):A0P (S8 l most kinds name k)=true∧(S8 l most kinds name k).length≤most∧∀ s∈S8 l most kinds name k,s.size≤12:=by
 obtain ⟨ks,h1,h2,h3,h4⟩:=B7l l most kinds name k
 rw [h1]
 have hall:∀ s∈ks.map (fun x:Nat=>name x),D1 s=true:=fun s hs=>by
  obtain ⟨x,hx,rfl⟩:=D6Z.1 hs;exact hn x (h3 x hx)
 refine ⟨?_,by rw [D6J];exact h4,fun s hs=>?_⟩
 ·unfold A0P
  rw [D6I,D6X,D7R]
  refine ⟨?_,fun s hs=>by rw [hall s hs];simp⟩
  unfold A0p
  rw [D6W]
  intro j hj
  have hj:=D6T.1 hj
  rw [D6J] at hj
  unfold O9
  rw [D7J,D7B]
  by_cases e:j=0
  ·exact .inl e
  ·refine .inr ?_
   have g:∀ i,i<ks.length→(ks.map (fun x:Nat=>name x)).getD i default=name (ks.getD i 0:Nat):=fun i hi=>by
    rw [D6D,D7C,D6K hi,D6D,D6K hi];rfl
   rw [g _ (by omega),g _ hj]
   have gm:∀ i,i<ks.length→ks.getD i 0=ks[i]!:=fun i hi=>by rw [D6D,D6K hi,getElem!_pos ks i hi];rfl
   refine hr _ _ ?_ (h3 _ ?_)
   ·rw [gm _ (by omega),gm _ hj,getElem!_pos ks _ (by omega),getElem!_pos ks _ hj]
    exact D8n.1 h2 _ _ (by omega) hj (by omega)
   ·rw [gm _ hj,getElem!_pos ks _ hj];exact D8c _
 ·have:=hall s hs
  unfold D1 at this
  simp only [D6I,D6F] at this
  exact this.1.2
theorem C2h:((List.range 8).all fun x=>D1 (A1l (x:Nat)))=true:=by kernel_rfl
theorem C4Z:((List.range 8).all fun y=>(List.range y).all fun x=>slt (A1l (x:Nat)) (A1l (y:Nat)))=true:=by kernel_rfl
theorem C0O:((List.range 3).all fun x=>D1 (A5K (x:Nat)))=true:=by kernel_rfl
theorem C3o:((List.range 3).all fun y=>(List.range y).all fun x=>slt (A5K (x:Nat)) (A5K (y:Nat)))=true:=by kernel_rfl
theorem B7T:((List.range 3).all fun x=>D1 (A5A (x:Nat)))=true:=by kernel_rfl
theorem C0U:((List.range 3).all fun y=>(List.range y).all fun x=>slt (A5A (x:Nat)) (A5A (y:Nat)))=true:=by kernel_rfl
theorem B5g {name:Int→C8} {k:Nat} (h:((List.range k).all fun y=>(List.range y).all fun x=>slt (name (x:Nat)) (name (y:Nat)))=true) (x y:Nat) (hxy:x<y) (hy:y<k):slt (name x) (name y)=true :=
 D6W.1 (D6W.1 h y (D6T.2 hy)) x (D6T.2 hxy)
theorem B4O {name:Int→C8} {k:Nat} (h:((List.range k).all fun x=>D1 (name (x:Nat)))=true) (x:Nat) (hx:x<k):D1 (name x)=true:=D6W.1 h x (D6T.2 hx)
theorem A3a (s:W4):A0q (Q5 s)=true∧A2h (Q5 s):=by
 obtain ⟨a1,a2,a3⟩:=A7O (l:=s.skus) (most:=3) (kinds:=8) (name:=A1l) (k:=8) (B4O C2h) (B5g C4Z)
 obtain ⟨b1,b2,b3⟩:=A7O (l:=s.cats) (most:=2) (kinds:=3) (name:=A5K) (k:=3) (B4O C0O) (B5g C3o)
 unfold Q5
 generalize S8 s.skus 3 8 A1l 8=A at a1 a2 a3 ⊢
 generalize S8 s.cats 2 3 A5K 3=B at b1 b2 b3 ⊢
 refine ⟨?_,?_⟩
 ·unfold A0q
  rw [a1,b1,D7m (show A.length≤20 by omega),D7m (show B.length≤20 by omega)];rfl
 ·exact ⟨by show A.length≤_;omega,by show B.length≤_;omega,fun x hx=>by have:=a3 x hx;show x.size≤_;omega,fun x hx=>by have:=b3 x hx;show x.size≤_;omega⟩
theorem B4W (l:List C8):S6 (I1 l)=true∧(I1 l).length≤3∧∀ s∈I1 l,s.size≤12:=by
 obtain ⟨a1,a2,a3⟩:=A7O (l:=l) (most:=3) (kinds:=3) (name:=A5A) (k:=3) (B4O B7T) (B5g C0U)
 unfold I1
 generalize S8 l 3 3 A5A 3=A at a1 a2 a3 ⊢
 refine ⟨?_,a2,a3⟩
 unfold A0P at a1
 rw [D6I] at a1
 unfold S6
 rw [a1.1,a1.2,D7m (by omega)];rfl
theorem D0c (n:Int):B5 n 8=0∨B5 n 8=1∨B5 n 8=2∨B5 n 8=3∨B5 n 8=4∨B5 n 8=5∨B5 n 8=6∨B5 n 8=7:=by
 have:=C9 n (n:=8) (by decide);omega
theorem C4X (k:Nat) (h:k<8):A1l k=Z3 (97+k):=by
 unfold A1l B5;congr 2;omega
theorem B4a (l:List Ab.Item):(G3 l).map Ab.Item.sku=[Z3 97,Z3 98,Z3 99,Z3 100,Z3 101,Z3 102,Z3 103,Z3 104]:=by
 unfold G3
 rw [D8Y]
 have e:∀ k,k<8→(Ab.Item.sku ∘ O1 l) k=Z3 (97+(k:Int)):=fun k hk=>by
  rw [←C4X k hk]
  show (O1 l k).sku=_
  unfold O1;split<;>rfl
 have:(List.range 8).map (Ab.Item.sku ∘ O1 l)=(List.range 8).map fun k:Nat=>Z3 (97+(k:Int)):=D7V fun k hk=>e k (D6T.1 hk)
 rw [this];rfl
theorem A2k (l:List Ab.Item):(G3 l).length=8:=by unfold G3;rw [D6J,D7g]
theorem C1k (items:List Ab.Item) (s:C8):known items s=(items.map Ab.Item.sku).any fun y=>y.toList==s.toList:=by
 unfold known P9
 rw [A1A,List.any_map];rfl
theorem A7L (l:List Ab.Item) (n:Int):known (G3 l) (A1l n)=true:=by
 rw [C1k,B4a]
 unfold A1l
 rcases D0c n with h | h | h | h | h | h | h | h<;>rw [h]<;>kernel_rfl
theorem B6I (x:E8):(0≤(A6r x).qty∧(A6r x).qty≤9)∧0≤(A6r x).price∧(A6r x).price<4000:=by
 have h1:=C9 x.qty (n:=10) (by decide)
 have h2:=C9 x.price (n:=4000) (by decide)
 exact ⟨⟨h1.1,by show B5 x.qty 10≤9;omega⟩,h2.1,h2.2⟩
structure A2o (l:List E8):Prop where
 len:l.length≤8
 line:∀ x∈l,(0≤x.qty∧x.qty≤9)∧0≤x.price∧x.price<4000
 sku:∀ x∈l,∃ n,x.sku=A1l n
theorem B4X (l:List E8):A2o (A6Z l):=by
 unfold A6Z
 refine ⟨by rw [D6J,D6N];omega,fun x hx=>?_,fun x hx=>?_⟩
 ·obtain ⟨y,_,rfl⟩:=D6Z.1 hx;exact B6I y
 ·obtain ⟨y,_,rfl⟩:=D6Z.1 hx;exact ⟨A2Q y.sku,rfl⟩
theorem A2o.lineC {l:List E8} (h:A2o l) {x:E8} (hx:x∈l):lineC x=true:=by
 have:=h.line x hx
 rw [A0A];omega
theorem C0w {l:List E8} (h1:∀ x∈l,(0≤x.qty∧x.qty≤9)∧0≤x.price∧x.price<4000):(0≤L9 l∧L9 l≤9 * l.length)∧0≤J8 l∧J8 l≤36000 * l.length:=by
 have:∀ (l:List E8) (a b:Int),(∀ x∈l,(0≤x.qty∧x.qty≤9)∧0≤x.price∧x.price<4000)→(a≤l.foldl (fun s x=>s+x.qty) a∧l.foldl (fun s x=>s+x.qty) a≤a+9 * l.length)∧b≤l.foldl (fun s x=>s+x.qty * x.price) b∧l.foldl (fun s x=>s+x.qty * x.price) b≤b+36000 * l.length:=by
  intro l
  induction l with
  | nil=>intro a b _;simp
  | cons y l ih =>
   intro a b h
   have hy:=h y (D7f ..)
   have h0:0≤y.qty * y.price:=D8d hy.1.1 hy.2.1
   have h9:y.qty * y.price≤9 * 4000:=D9d hy.1.2 (by omega) hy.2.1 (by omega)
   have:=ih (a+y.qty) (b+y.qty * y.price) fun x hx=>h x (D7d _ hx)
   rw [D7U,D7U,D7o]
   omega
 have:=this l 0 0 h1
 unfold L9 J8;omega
theorem B8h {kn:C8→Bool} {l:List E8} (h:∀ x∈l,kn x.sku=true∧lineC x=true):l.find? (K1 kn)=none:=by
 rw [D9i]
 intro x hx
 unfold K1
 rw [(h x hx).1,(h x hx).2];simp
theorem A2o.check {l:List E8} (h:A2o l) {kn:C8→Bool} (hk:∀ n,kn (A1l n)=true):O6 kn l=0:=by
 unfold O6
 have hl:=h.len
 have hs:=C0w h.line
 rw [if_neg (by omega),B8h fun x hx=>⟨by obtain ⟨n,hn⟩:=h.sku x hx;rw [hn];exact hk n,h.lineC hx⟩]
 show (if _ then (5:Int) else 0)=0
 rw [if_neg]
 rw [D6L (by omega),D6L (by omega)];decide
def B8m (n:Int):C8:=(⟨#[103]⟩:C8)++Z3 (48+B5 n 2)
def Q3 (k:Int):C8:=(⟨#[122]⟩:C8)++Z3 (48+k)
def Z6 (x:A2q):A2q:=⟨Q5 x.scope,1+B5 x.count 2⟩
def P6 (l:List A2q):List A2q:=if l.length=0 then [⟨⟨[],[]⟩,2⟩] else (l.take 3).map Z6
def A3A (p:B1):Int:=1+B5 (IntKind.i64.wrap (p.kind - 1)) 7
def A2c (p:B1):C8:=if B5 (A2Q p.group) 3=1 then B8m p.group.size else ⟨#[]⟩
def A3z (p:B1):C8:=if B5 (A2Q p.code) 3=1 then A5A p.code.size else ⟨#[]⟩
def A3j (p:B1):Int:=if B5 p.least 3=1 then B5 p.least 9000 else 0
def P5 (p:B1) (id K:Int):B1 :=
 ⟨idN id,K,B5 p.prio 5,A2c p,A3z p,if K=7 then false else p.closes,if K=4∨K=7 then ⟨[],[]⟩ else Q5 p.scope,A3j p,
 if K=1∨K=3∨K=7 then 1+B5 p.rate 10000 else 0,if K=2 then 1+B5 p.amount 900 else if K=4 then B5 p.amount 3000 else 0,
 if K=3 then 1+B5 p.buy 3 else 0,if K=3 then 1+B5 p.get 2 else 0,if K=4 then P6 p.parts else [],if K=5 then P7 p.tiers 5000 else if K=6 then P7 p.tiers 5 else []⟩
def A2d (p:B1) (id:Int):B1:=P5 p id (A3A p)
def C1g (i:Nat):Int:=((i:Int) * 7+3) % 10
def Y5 (l:List B1) (i:Nat):B1:=A2d (l.getD i default) (C1g i)
def N3 (l:List B1):List B1:=(List.range (min l.length 6)).map (Y5 l)
def A8K (l:List G8) (c:Nat):G8:=⟨A5K c,B5 (l.getD c default).rate 3000⟩
def T3 (l:List G8):List G8:=(List.range (min 3 l.length)).map (A8K l)
def D7 (l:List K3) (k:Nat):K3 :=
 if k<l.length then ⟨Q3 k,T3 (l.getD k default).rates,B5 (l.getD k default).rest 3000,B5 (l.getD k default).ship 3000⟩ else ⟨Q3 k,[],1000 * k,500 * k⟩
def L1 (t:Tax):Tax:=⟨t.incl,t.byOrder,B5 t.round 3,(List.range 3).map (D7 t.zones)⟩
def B1X (s:Ab.Ship):Ab.Ship:=⟨B5 s.fee 900,B5 s.free 3 * 4000⟩
def A7R (p:A5T):A5T:=⟨20+B5 p.window 60,B5 p.grace 40,1+B5 p.mode 3,B5 p.restock 3 * B5 p.restock 2500,O2 p.order,O2 p.credit⟩
def G4 (r:D6):D6:=⟨G3 r.items,N3 r.promos,L1 r.tax,B1X r.ship,A7R r.policy⟩
theorem D0d (n:Int):B5 n 2=0∨B5 n 2=1:=by
 have:=C9 n (n:=2) (by decide);omega
theorem C8b (n:Int):B5 n 3=0∨B5 n 3=1∨B5 n 3=2:=by
 have:=C9 n (n:=3) (by decide);omega
theorem C8R (n:Int):B5 n 10=0∨B5 n 10=1∨B5 n 10=2∨B5 n 10=3∨B5 n 10=4∨B5 n 10=5∨B5 n 10=6∨B5 n 10=7∨B5 n 10=8∨B5 n 10=9:=by
 have:=C9 n (n:=10) (by decide);omega
theorem le3 {n:Nat} (h:n≤3):n=0∨n=1∨n=2∨n=3:=by omega
theorem lt3 {n:Nat} (h:n<3):n=0∨n=1∨n=2:=by omega
theorem T9 {s:C8} (h:D1 s=true):s.size≤12:=by
 unfold D1 at h
 simp only [D6I,D6F] at h
 exact h.1.2
theorem A9P (n:Int):D1 (A1l n)=true:=by
 unfold A1l
 rcases D0c n with h | h | h | h | h | h | h | h<;>rw [h]<;>kernel_rfl
theorem A6Q (n:Int):D1 (A5K n)=true:=by
 unfold A5K
 rcases C8b n with h | h | h<;>rw [h]<;>kernel_rfl
theorem B1l (n:Int):D1 (A5A n)=true:=by
 unfold A5A
 rcases C8b n with h | h | h<;>rw [h]<;>kernel_rfl
theorem B0b (n:Int):D1 (B8m n)=true:=by
 unfold B8m
 rcases D0d n with h | h<;>rw [h]<;>kernel_rfl
theorem B6h (n:Int):D1 (idN n)=true:=by
 unfold idN
 rcases C8R n with h | h | h | h | h | h | h | h | h | h<;>rw [h]<;>kernel_rfl
theorem B3O:A2K ⟨#[]⟩=true:=by kernel_rfl
theorem B6s {s:C8} (h:D1 s=true):A2K s=true:=by unfold A2K;rw [h,D7v]
theorem B0c (p:B1):A2K (A2c p)=true∧(A2c p).size≤12:=by
 unfold A2c;split
 ·exact ⟨B6s (B0b _),T9 (B0b _)⟩
 ·exact ⟨B3O,by decide⟩
theorem B1m (p:B1):A2K (A3z p)=true∧(A3z p).size≤12:=by
 unfold A3z;split
 ·exact ⟨B6s (B1l _),T9 (B1l _)⟩
 ·exact ⟨B3O,by decide⟩
theorem C3U (p:B1):0≤A3j p∧A3j p<9000:=by
 have:=C9 p.least (n:=9000) (by decide)
 unfold A3j;split<;>omega
theorem A6a:A0q ⟨[],[]⟩=true∧A2h ⟨[],[]⟩:=⟨by kernel_rfl,⟨by decide,by decide,fun x hx=>(by cases hx),fun x hx=>(by cases hx)⟩⟩
theorem A5m (l:List A2q):(1≤(P6 l).length∧(P6 l).length≤3)∧∀ x∈P6 l,A0W x=true∧A2h x.scope:=by
 unfold P6
 split
 ·refine ⟨⟨D6M _,by show 1≤3;decide⟩,fun x hx=>?_⟩
  rw [D7i.1 hx]
  exact ⟨by kernel_rfl,A6a.2⟩
 ·rename_i h
  refine ⟨by rw [D6J,D6N];omega,fun x hx=>?_⟩
  obtain ⟨y,_,rfl⟩:=D6Z.1 hx
  obtain ⟨h1,h2⟩:=A3a y.scope
  have:=C9 y.count (n:=2) (by decide)
  refine ⟨?_,h2⟩
  unfold A0W
  rw [show (Z6 y).scope=Q5 y.scope from rfl,h1,show (Z6 y).count=1+B5 y.count 2 from rfl,D6L (by omega),D6L (by omega)];rfl
theorem B2H (l:List A0S) (step:Int) (i k:Nat) (hk:k<i):(Q6 l step i).1.getD k default=B1Y (l.getD k default) ((Q6 l step k).2+B5 (l.getD k default).least step):=by
 induction i with
 | zero=>omega
 | succ i ih =>
  have hl:=A8a l step i
  show ((Q6 l step i).1++[_]).getD k default=_
  by_cases e:k=i
  ·subst e
   rw [D6D,D7a (by omega),hl,Nat.sub_self];rfl
  ·rw [D6D,D7b (by omega),←D6D]
   exact ih (by omega)
theorem A3b (l:List A0S) (step:Int) (h:step=5000∨step=5):A0d (P7 l step)=true∧(P7 l step).length≤3:=by
 unfold P7
 split
 ·rcases h with rfl | rfl
  ·exact ⟨by kernel_rfl,by show 1≤3;decide⟩
  ·exact ⟨by kernel_rfl,by show 1≤3;decide⟩
 ·rename_i h0
  have hs:0<step∧step≤5000:=by omega
  have hl:=A8a l step (min l.length 3)
  refine ⟨?_,by omega⟩
  unfold A0d
  rw [hl,D6L (by omega),D6L (by omega)]
  show L3 _ _=true
  refine K8 fun k hk=>?_
  rw [hl] at hk
  have hg:=B2H l step (min l.length 3) k hk
  have hm:=C9 (l.getD k default).least hs.1
  have hr:=C9 (l.getD k default).rate (n:=4000) (by decide)
  have ha:=C9 (l.getD k default).amount (n:=300) (by decide)
  have hlo:=A8Z l hs.1 k
  have hip:(k:Int) * step≤3 * 5000:=D9d (by omega) hs.2 (by omega) (by omega)
  unfold A4h
  rw [hg]
  have hprev:(if k=0 then -1 else ((Q6 l step (min l.length 3)).1.getD (k - 1) default).least)<(Q6 l step k).2+B5 (l.getD k default).least step:=by
   by_cases e:k=0
   ·rw [if_pos e];omega
   ·rw [if_neg e,B2H l step (min l.length 3) (k - 1) (by omega)]
    obtain ⟨j,rfl⟩:∃ j,k=j+1:=⟨k - 1,by omega⟩
    rw [Nat.add_sub_cancel]
    show (Q6 l step j).2+B5 (l.getD j default).least step<(Q6 l step j).2+B5 (l.getD j default).least step+1+B5 (l.getD (j+1) default).least step
    omega
  show (!(decide ((Q6 l step k).2+B5 (l.getD k default).least step≤_)||decide ((Q6 l step k).2+B5 (l.getD k default).least step>10000000000000)||decide (B5 (l.getD k default).rate 4000<0)||decide (B5 (l.getD k default).rate 4000>10000)||decide (1+B5 (l.getD k default).amount 300<0)||decide (1+B5 (l.getD k default).amount 300>10000000000000)||(B5 (l.getD k default).rate 4000==0&&1+B5 (l.getD k default).amount 300==0)))=true
  rw [D6L (by omega),D6L (by omega),D6L (by omega),D6L (by omega),D6L (by omega),D6L (by omega),show (1+B5 (l.getD k default).amount 300==0)=false from by rw [D7p];omega,D7h];rfl
theorem C1j (l:List Int) (n:Nat):(∀ x∈Q8 l n,1≤x∧x≤5)∧(Q8 l n).Nodup:=by
 induction n with
 | zero=>exact ⟨fun x hx=>absurd hx D8j,List.nodup_nil⟩
 | succ n ih =>
  rw [A6g];unfold A6f
  split
  ·exact ih
  ·rename_i h
   have hm:=C9 (gI l n) (n:=5) (by decide)
   have hno:1+B5 (gI l n) 5∉Q8 l n:=fun hx=>h (D8r.2 ⟨_,hx,D8S _⟩)
   refine ⟨fun x hx=>?_,List.nodup_append.2 ⟨ih.2,List.nodup_cons.2 ⟨D8j,List.nodup_nil⟩,fun a ha b hb=>?_⟩⟩
   ·rcases D7T.1 hx with h' | h'
    ·exact ih.1 x h'
    ·rw [D7i.1 h'];omega
   ·rw [D7i.1 hb];intro e;exact hno (e▸ha)
theorem B6m {l:List Int} (h1:∀ x∈l,1≤x∧x≤5) (h2:l.Nodup):A1h l=true:=by
 refine K8 fun k hk=>?_
 have hx:=h1 _ (A7 hk)
 unfold A2H
 rw [show N9 1 9 (l.getD k default)=true from E0.2 (by omega)]
 have:((l.take k).any fun y=>l.getD k default==y)=false:=by
  rw [D7R]
  intro y hy
  obtain ⟨j,hj,rfl⟩:=D8D hy
  rw [D6N] at hj
  rw [D7B,D6D,D6K hk,Option.getD_some,List.getElem_take]
  intro e
  have:=(List.nodup_iff_pairwise_ne.1 h2)
  exact absurd e.symm (D8n.1 this j k (by omega) hk (by omega))
 rw [this];rfl
theorem A0F (l:List Int):A1h (O2 l)=true∧(O2 l).length≤6:=by
 have h:=C1j l (min l.length 6)
 have:=B1x l (min l.length 6)
 exact ⟨B6m h.1 h.2,by show (Q8 l _).length≤6;omega⟩
theorem A2e (q:B1) (h1:1≤q.kind∧q.kind<8) (hh:A7s q=true) (hp:A9D q=true) (hk:A7t q=true):H2 q=true:=by
 unfold H2;rw [D7m (show q.kind≥1 from h1.1),D7m h1.2,hh,hp,hk];rfl
theorem A3y (q:B1) (h1:D1 q.id=true) (h2:0≤q.prio∧q.prio≤1000) (h3:A2K q.group=true) (h4:A2K q.code=true) (h5:A0q q.scope=true) (h6:0≤q.least∧q.least≤10000000000000):A7s q=true:=by
 unfold A7s;rw [h1,E0.2 h2,h3,h4,h5,E0.2 h6];rfl
theorem A6q (p:B1):1≤A3A p∧A3A p≤7:=by
 have:=C9 (IntKind.i64.wrap (p.kind - 1)) (n:=7) (by decide)
 unfold A3A;omega
theorem A9G (p:B1) (id K:Int) (hK:1≤K∧K≤7):H2 (P5 p id K)=true:=by
 have h1:=B6h id
 have h2:=C9 p.prio (n:=5) (by decide)
 have h3:=(B0c p).1
 have h4:=(B1m p).1
 have h5:=(A3a p.scope).1
 have h6:=C3U p
 have r:=C9 p.rate (n:=10000) (by decide)
 have a9:=C9 p.amount (n:=900) (by decide)
 have a3:=C9 p.amount (n:=3000) (by decide)
 have b3:=C9 p.buy (n:=3) (by decide)
 have g2:=C9 p.get (n:=2) (by decide)
 have hpt:=A5m p.parts
 have ht5:=(A3b p.tiers 5000 (.inl rfl)).1
 have ht6:=(A3b p.tiers 5 (.inr rfl)).1
 unfold P5
 generalize idN id=I at h1 ⊢
 generalize B5 p.prio 5=pr at h2 ⊢
 generalize A2c p=G at h3 ⊢
 generalize A3z p=C at h4 ⊢
 generalize Q5 p.scope=S at h5 ⊢
 generalize A3j p=L at h6 ⊢
 generalize B5 p.rate 10000=R at r ⊢
 generalize B5 p.amount 900=A at a9 ⊢
 generalize B5 p.amount 3000=A3 at a3 ⊢
 generalize B5 p.buy 3=B at b3 ⊢
 generalize B5 p.get 2=Gt at g2 ⊢
 generalize P6 p.parts=PT at hpt ⊢
 generalize P7 p.tiers 5000=T5 at ht5 ⊢
 generalize P7 p.tiers 5=T6 at ht6 ⊢
 generalize p.closes=cl
 rcases (by omega:K=1∨K=2∨K=3∨K=4∨K=5∨K=6∨K=7) with rfl | rfl | rfl | rfl | rfl | rfl | rfl
 ·exact A2e ⟨I,1,pr,G,C,cl,S,L,1+R,0,0,0,[],[]⟩ ⟨(by decide:(1:Int)≤1),(by decide:(1:Int)<8)⟩ (A3y _ h1 ⟨h2.1,by show pr≤1000;omega⟩ h3 h4 h5 ⟨h6.1,by show L≤_;omega⟩) rfl (show N9 1 10000 (1+R)=true from E0.2 (by omega))
 ·exact A2e ⟨I,2,pr,G,C,cl,S,L,0,1+A,0,0,[],[]⟩ ⟨(by decide:(1:Int)≤2),(by decide:(2:Int)<8)⟩ (A3y _ h1 ⟨h2.1,by show pr≤1000;omega⟩ h3 h4 h5 ⟨h6.1,by show L≤_;omega⟩) rfl (show N9 1 1000000000 (1+A)=true from E0.2 (by omega))
 ·refine A2e ⟨I,3,pr,G,C,cl,S,L,1+R,0,1+B,1+Gt,[],[]⟩ ⟨(by decide:(1:Int)≤3),(by decide:(3:Int)<8)⟩ (A3y _ h1 ⟨h2.1,by show pr≤1000;omega⟩ h3 h4 h5 ⟨h6.1,by show L≤_;omega⟩) rfl ?_
  show (N9 1 10000 (1+R)&&(N9 1 100 (1+B)&&N9 1 100 (1+Gt)))=true
  rw [E0.2 (show 1≤1+R∧1+R≤10000 by omega),E0.2 (show 1≤1+B∧1+B≤100 by omega),E0.2 (show 1≤1+Gt∧1+Gt≤100 by omega)];rfl
 ·refine A2e ⟨I,4,pr,G,C,cl,⟨[],[]⟩,L,0,A3,0,0,PT,[]⟩ ⟨(by decide:(1:Int)≤4),(by decide:(4:Int)<8)⟩ (A3y _ h1 ⟨h2.1,by show pr≤1000;omega⟩ h3 h4 A6a.1 ⟨h6.1,by show L≤_;omega⟩) rfl ?_
  show (!(decide ((PT.length:Int)<1)||decide ((PT.length:Int)>3)||decide (A3<0)||decide (A3>10000000000000))&&!(PT.any fun x=>!A0W x))=true
  rw [D6L (by omega),D6L (by omega),D6L (by omega),D6L (by omega),show (PT.any fun x=>!A0W x)=false from by
   rw [D7R];intro x hx;rw [(hpt.2 x hx).1];simp];rfl
 ·exact A2e ⟨I,5,pr,G,C,cl,S,L,0,0,0,0,[],T5⟩ ⟨(by decide:(1:Int)≤5),(by decide:(5:Int)<8)⟩ (A3y _ h1 ⟨h2.1,by show pr≤1000;omega⟩ h3 h4 h5 ⟨h6.1,by show L≤_;omega⟩) rfl ht5
 ·exact A2e ⟨I,6,pr,G,C,cl,S,L,0,0,0,0,[],T6⟩ ⟨(by decide:(1:Int)≤6),(by decide:(6:Int)<8)⟩ (A3y _ h1 ⟨h2.1,by show pr≤1000;omega⟩ h3 h4 h5 ⟨h6.1,by show L≤_;omega⟩) rfl ht6
 ·exact A2e ⟨I,7,pr,G,C,false,⟨[],[]⟩,L,1+R,0,0,0,[],[]⟩ ⟨(by decide:(1:Int)≤7),(by decide:(7:Int)<8)⟩ (A3y _ h1 ⟨h2.1,by show pr≤1000;omega⟩ h3 h4 A6a.1 ⟨h6.1,by show L≤_;omega⟩) rfl (show N9 1 10000 (1+R)=true from E0.2 (by omega))
theorem A2h.fit {s:W4} (h:A2h s):A8h s:=⟨by have:=h.n1;show _≤9223372036854775807;omega,by have:=h.n2;show _≤9223372036854775807;omega⟩
theorem B1W (p:B1) (id K:Int):Q7 (P5 p id K):=by
 have hs:=(A3a p.scope).2
 have hp:=A5m p.parts
 refine ⟨?_,?_,?_⟩
 ·show A8h (if K=4∨K=7 then ⟨[],[]⟩ else Q5 p.scope)
  split
  ·exact A6a.2.fit
  ·exact hs.fit
 ·show (if K=4 then P6 p.parts else []).length≤9223372036854775807
  split
  ·omega
  ·exact D7e _
 ·show ∀ x∈(if K=4 then P6 p.parts else []),_
  split
  ·exact fun x hx=>⟨(hp.2 x hx).2.fit.skus,(hp.2 x hx).2.fit.cats⟩
  ·exact fun x hx=>absurd hx D8j
theorem A1I (l:List B1):(N3 l).length=min l.length 6:=by unfold N3;rw [D6J,D7g]
theorem A6s {l:List B1} {k:Nat} (hk:k<(N3 l).length):(N3 l).getD k default=Y5 l k:=by
 rw [A1I] at hk
 unfold N3
 rw [D6D,D7C,D8i hk];rfl
theorem A6t {l:List B1} {p:B1} (h:p∈N3 l):∃ (q:B1) (id K:Int),(1≤K∧K≤7)∧p=P5 q id K:=by
 obtain ⟨k,hk,rfl⟩:=D6Z.1 h
 exact ⟨_,_,_,A6q _,rfl⟩
theorem B8n:((List.range 6).all fun j=>(List.range j).all fun i=>!((idN (C1g i)).toList==(idN (C1g j)).toList))=true:=by kernel_rfl
theorem A9H (l:List B1):promosC (N3 l)=true:=by
 have hl:=A1I l
 unfold promosC
 rw [D7m (by omega),D6Y]
 refine K8 fun k hk=>?_
 unfold X0
 rw [A6s hk,show H2 (Y5 l k)=true from A9G _ _ _ (A6q _),D6Y,D6X,D7R]
 intro x hx
 obtain ⟨j,hj,rfl⟩:=D5 hx
 rw [D6N] at hj
 rw [show ((N3 l).take k).getD j default=Y5 l j by rw [D6D,D6S (by omega),←D6D,A6s (by omega)]]
 have:=D6W.1 (D6W.1 B8n k (D6T.2 (by omega))) j (D6T.2 (by omega))
 rw [D6X] at this
 show ¬((idN (C1g j)).toList==(idN (C1g k)).toList)=true
 rw [this];simp
theorem C0Q (n:Nat) (h:n≤3):A0p ((List.range n).map fun c:Nat=>A5K c)=true:=by
 rcases le3 h with rfl | rfl | rfl | rfl<;>kernel_rfl
theorem A8L (l:List G8):(T3 l).length≤3∧(∀ x∈T3 l,A4D x=true∧x.cat.size≤12)∧A0p ((T3 l).map G8.cat)=true:=by
 unfold T3
 refine ⟨by rw [D6J,D7g];omega,fun x hx=>?_,?_⟩
 ·obtain ⟨c,_,rfl⟩:=D6Z.1 hx
  have:=C9 (l.getD c default).rate (n:=3000) (by decide)
  refine ⟨?_,T9 (A6Q _)⟩
  unfold A4D
  rw [show (A8K l c).cat=A5K c from rfl,A6Q,show N9 0 10000 (A8K l c).rate=true from E0.2 ⟨this.1,by show B5 _ 3000≤_;omega⟩];rfl
 ·rw [D8Y]
  exact C0Q _ (by omega)
theorem A8c:((List.range 3).all fun k:Nat=>D1 (Q3 k))=true:=by kernel_rfl
theorem B6M (l:List K3) (k:Nat) (hk:k<3):Y6 (D7 l k)=true:=by
 have hn:=D6W.1 A8c k (D6T.2 hk)
 have hz:=T9 hn
 unfold D7
 split
 ·obtain ⟨h1,h2,h3⟩:=A8L (l.getD k default).rates
  have m1:=C9 (l.getD k default).rest (n:=3000) (by decide)
  have m2:=C9 (l.getD k default).ship (n:=3000) (by decide)
  generalize T3 (l.getD k default).rates=R at h1 h2 h3 ⊢
  unfold Y6
  show (!(!D1 (Q3 k)||!N9 0 10000 (B5 _ 3000)||!N9 0 10000 (B5 _ 3000)||decide ((R.length:Int)>40))&&(L3 R (fun _ x=>A4D x)&&A0p (R.map G8.cat)))=true
  rw [hn,E0.2 (show 0≤B5 (l.getD k default).rest 3000∧_≤10000 by omega),E0.2 (show 0≤B5 (l.getD k default).ship 3000∧_≤10000 by omega),D6L (by omega),h3,show L3 R (fun _ x=>A4D x)=true from K8 fun j hj=>(h2 _ (A7 hj)).1];rfl
 ·rcases lt3 hk with rfl | rfl | rfl
  ·exact (by kernel_rfl:Y6 ⟨Q3 (0:Nat),[],1000 * ((0:Nat):Int),500 * ((0:Nat):Int)⟩=true)
  ·exact (by kernel_rfl:Y6 ⟨Q3 (1:Nat),[],1000 * ((1:Nat):Int),500 * ((1:Nat):Int)⟩=true)
  ·exact (by kernel_rfl:Y6 ⟨Q3 (2:Nat),[],1000 * ((2:Nat):Int),500 * ((2:Nat):Int)⟩=true)
theorem C2M (l:List K3):(((List.range 3).map (D7 l)).map K3.name)=[Q3 0,Q3 1,Q3 2]:=by
 have e:∀ k,(D7 l k).name=Q3 k:=fun k=>by unfold D7;split<;>rfl
 show [(D7 l 0).name,(D7 l 1).name,(D7 l 2).name]=_
 rw [e,e,e];rfl
theorem B8K (t:Tax):taxC (L1 t)=true:=by
 have hr:=C9 t.round (n:=3) (by decide)
 have hz:∀ z∈(L1 t).zones,Y6 z=true:=fun z hz=>by
  obtain ⟨k,hk,rfl⟩:=D6Z.1 hz
  exact B6M _ k (D6T.1 hk)
 have hn:(L1 t).zones.length=3:=by show ((List.range 3).map _).length=3;rw [D6J,D7g]
 unfold taxC
 rw [show (L1 t).round=B5 t.round 3 from rfl,hn,D6L (show ¬ B5 t.round 3<0 by omega),D6L (show ¬ B5 t.round 3>2 by omega),show (L1 t).zones.map K3.name=[Q3 0,Q3 1,Q3 2] from C2M _,
  show A0p [Q3 0,Q3 1,Q3 2]=true by kernel_rfl,show L3 (L1 t).zones (fun _ z=>Y6 z)=true from K8 fun j hj=>hz _ (A7 hj)];rfl
theorem B6G (l:List Ab.Item) (k:Nat):A4v (O1 l k)=true∧(O1 l k).sku.size≤12∧(O1 l k).cat.size≤12∨8≤k:=by
 by_cases h8:8≤k
 ·exact .inr h8
 refine .inl ?_
 have e:∀ (c:C8) (pr:Int) (f:Bool),D1 c=true→0≤pr∧pr≤1000000000→A4v ⟨A1l k,c,pr,f⟩=true∧(A1l k).size≤12∧c.size≤12:=fun c pr f hc hp=>by
  refine ⟨?_,T9 (A9P _),T9 hc⟩
  unfold A4v
  rw [show D1 (Ab.Item.mk (A1l k) c pr f).sku=true from A9P _,show D1 (Ab.Item.mk (A1l k) c pr f).cat=true from hc,D6L (show ¬(Ab.Item.mk (A1l k) c pr f).price<0 from by show ¬ pr<0;omega),D6L (show ¬(Ab.Item.mk (A1l k) c pr f).price>1000000000 from by show ¬ pr>_;omega)];rfl
 have hm:=C9 (l.getD k default).price (n:=4000) (by decide)
 unfold O1
 split
 ·exact e _ _ _ (A6Q _) (by omega)
 ·exact e _ _ _ (A6Q _) (by omega)
theorem A7u {l:List Ab.Item} {x:Ab.Item} (h:x∈G3 l):A4v x=true∧x.sku.size≤12∧x.cat.size≤12:=by
 obtain ⟨k,hk,rfl⟩:=D6Z.1 h
 have:=D6T.1 hk
 rcases B6G l k with h | h
 ·exact h
 ·omega
theorem B0y (l:List Ab.Item):A1C (G3 l)=true:=by
 unfold A1C
 rw [A2k,B4a,show A0p [Z3 97,Z3 98,Z3 99,Z3 100,Z3 101,Z3 102,Z3 103,Z3 104]=true by kernel_rfl,show L3 (G3 l) (fun _ x=>A4v x)=true from K8 fun j hj=>(A7u (A7 hj)).1];rfl
theorem B0z (r:D6):K6 (G4 r)=true:=by
 have h1:=C9 r.ship.fee (n:=900) (by decide)
 have h2:=C9 r.ship.free (n:=3) (by decide)
 have h3:=C9 r.policy.window (n:=60) (by decide)
 have h4:=C9 r.policy.grace (n:=40) (by decide)
 have h5:=C9 r.policy.mode (n:=3) (by decide)
 have h6:=C9 r.policy.restock (n:=3) (by decide)
 have h7:=C9 r.policy.restock (n:=2500) (by decide)
 have h8:B5 r.policy.restock 3 * B5 r.policy.restock 2500≤2 * 2499:=D9d (by omega) (by omega) (by omega) (by omega)
 have h9:0≤B5 r.policy.restock 3 * B5 r.policy.restock 2500:=D8d h6.1 h7.1
 show (A1C (G3 r.items)&&promosC (N3 r.promos)&&taxC (L1 r.tax)&&B0i (B1X r.ship)&&A2l (A7R r.policy))=true
 rw [B0y,A9H,B8K r.tax]
 have e1:B0i (B1X r.ship)=true:=by
  show (N9 0 1000000000 (B5 r.ship.fee 900)&&N9 0 10000000000000 (B5 r.ship.free 3 * 4000))=true
  rw [E0.2 (by omega),E0.2 (by omega)];rfl
 have e2:A2l (A7R r.policy)=true:=by
  show (N9 0 100000 (20+B5 r.policy.window 60)&&N9 0 100000 (B5 r.policy.grace 40)&&decide (1+B5 r.policy.mode 3≥1)&&decide (1+B5 r.policy.mode 3≤3)&&N9 0 10000 (B5 r.policy.restock 3 * B5 r.policy.restock 2500)&&A1h (O2 r.policy.order)&&A1h (O2 r.policy.credit))=true
  rw [E0.2 (by omega),E0.2 (by omega),D7m (by omega),D7m (by omega),E0.2 (by omega),(A0F _).1,(A0F _).1];rfl
 rw [e1,e2];rfl
theorem B3e (r:D6):X1 (G4 r):=by
 have h1:=A1I r.promos
 have h2:=(A0F r.policy.order).2
 have h3:=(A0F r.policy.credit).2
 refine ⟨by show (N3 r.promos).length≤9223372036854775807;omega,fun p hp=>?_,by show (O2 r.policy.order).length<_;omega,by show (O2 r.policy.credit).length<_;omega⟩
 obtain ⟨q,id,K,_,rfl⟩:=A6t hp
 exact B1W q id K
end Go.Proofs.YtaapofnkmpiknaaGreat
namespace Go.Proofs.YtaapofnkmpiknaaGreat
open Go Go.Ab
structure A1v where
 goods:Int
 tax:Int
 ship:Int
 shipTax:Int
 fee:Int
def A2O (b:A1v):AV:=.agg [eI b.goods,eI b.tax,eI b.ship,eI b.shipTax,eI b.fee]
def A1e (q:U5):AV:=.agg [B0 q.goods,B0 q.taxes,eI q.ship,eI q.shipTax,eI q.total,A8 2 B9O q.deals]
def N1 (r:D6) (l:List E8):List C8:=(C3 r.items l).map Ab.Item.cat
def B5c (v:B7J) (deals:List A1O):U5:=⟨v.goods,v.taxes,v.ship,v.shipTax,A2 v.goods+A2 v.taxes+v.ship+v.shipTax,deals⟩
def A9M (r:D6) (z:K3) (exempt:Bool) (l:List E8) (Pr:A3V):U5:=B5c (L4 r.tax z exempt (N1 r l) Pr.nets Pr.ship) Pr.deals
def T4 (q:U5):A1v:=⟨A2 q.goods,A2 q.taxes,q.ship,q.shipTax,0⟩
theorem B9i {l:List Int} {B:Int} (hB:0≤B) (h:∀ x∈l,-B≤x∧x≤B) : -(l.length * B)≤A2 l∧A2 l≤l.length * B:=by
 induction l with
 | nil=>exact ⟨by show -(((0:Nat):Int) * B)≤0;rw [Int.natCast_zero,D9D];omega,by show (0:Int)≤((0:Nat):Int) * B;rw [Int.natCast_zero,D9D];omega⟩
 | cons x l ih =>
  have h1:=ih fun y hy=>h y (D7d _ hy)
  have h2:=h x (D7f ..)
  rw [J7,D7o,show ((l.length+1:Nat):Int) * B=l.length * B+B by rw [Int.natCast_add,D9j];simp]
  omega
structure I6 (l:List Int):Prop where
 len:l.length≤1000
 all:∀ x∈l,-10000000000000≤x∧x≤10000000000000
theorem I6.take {l:List Int} (h:I6 l) (i:Nat) : -10000000000000000≤A2 (l.take i)∧A2 (l.take i)≤10000000000000000:=by
 have h1:=B9i (l:=l.take i) (B:=10000000000000) (by decide) fun x hx=>h.all x (D9C hx)
 have h2:(l.take i).length≤1000:=by rw [D6N];have:=h.len;omega
 omega
theorem I6.sum {l:List Int} (h:I6 l) : -10000000000000000≤A2 l∧A2 l≤10000000000000000:=by
 have:=h.take l.length
 rwa [D6O] at this
theorem I6.step {l:List Int} (h:I6 l) {i:Nat} (hi:i<l.length):IntKind.i64.wrap (A2 (l.take i)+gI l i)=A2 (l.take (i+1)):=by
 have h1:=h.take (i+1)
 rw [K9 hi] at h1 ⊢
 exact A5 (by omega) (by omega)
structure A2C (t:Tax) (z:K3) (cats:List C8) (nets:List Int) (ship:Int):Prop where
 tax:taxC t=true
 zone:Y6 z=true
 cats:cats.length=nets.length
 nets:A4Q nets
 ship:0≤ship∧ship≤10000000000000
structure B9C (q:U5) (n:Nat):Prop where
 goods:I6 q.goods
 taxes:I6 q.taxes
 ngoods:q.goods.length=n
 ntaxes:q.taxes.length=n
 pos:∀ x∈q.taxes,0≤x
 ship:0≤q.ship∧q.ship≤10000000000000
 shipTax:0≤q.shipTax∧q.shipTax≤10000000000000
 total:q.total=A2 q.goods+A2 q.taxes+q.ship+q.shipTax
theorem A3C {t:Tax} {z:K3} {cats:List C8} {nets:List Int} {ship:Int} (h:A2C t z cats nets ship):(cats.map (F3 z)).length=nets.length∧∀ x∈cats.map (F3 z),0≤x∧x≤10000:=by
 refine ⟨by rw [D6J];exact h.cats,fun x hx=>?_⟩
 obtain ⟨c,_,rfl⟩:=D6Z.1 hx
 exact B6W h.zone c
theorem B0K {t:Tax} {z:K3} {cats:List C8} {nets:List Int} {ship:Int} (h:A2C t z cats nets ship) (exempt:Bool) (deals:List A1O):B9C (B5c (L4 t z exempt cats nets ship) deals) nets.length:=by
 obtain ⟨r1,r2⟩:=A3C h
 obtain ⟨t1,t2⟩:=A6D (t:=t) h.nets r1 r2
 have hz:=(A4M h.zone).2.1
 have hm:=A2Z (t:=t) h.ship.1 hz
 have hs:=h.ship
 have hn:=h.nets
 have hnx:∀ i,i<nets.length→0≤gI nets i∧gI nets i≤10000000000000:=fun i hi=>by
  have h1:=hn.pos _ (show gI nets i∈nets from A7 hi)
  have h2:=J4 hn.pos (show gI nets i∈nets from A7 hi)
  have h3:=hn.sum
  exact ⟨h1,by omega⟩
 have htx:∀ i,i<nets.length→0≤gI (K7 t (cats.map (F3 z)) nets) i∧gI (K7 t (cats.map (F3 z)) nets) i≤10000000000000:=fun i hi=>t2 _ (A7 (by omega))
 have hnl:=hn.len
 have gl:(A2G t (K7 t (cats.map (F3 z)) nets) nets).length=nets.length:=by unfold A2G;rw [D6J,D7g]
 refine ⟨⟨by show (A2G _ _ _).length≤_;omega,fun x hx=>?_⟩,⟨?_,fun x hx=>?_⟩,gl,?_,fun x hx=>?_,?_,?_,rfl⟩
 ·obtain ⟨i,hi,rfl⟩:=D6Z.1 (show x∈A2G _ _ _ from hx)
  have hi:=D6T.1 hi
  have h1:=hnx i hi
  have h2:=htx i hi
  split<;>omega
 ·show (if exempt=true then List.replicate nets.length 0 else K7 t (cats.map (F3 z)) nets).length≤1000
  split
  ·rw [D7L];omega
  ·omega
 ·have hx:x∈(if exempt=true then List.replicate nets.length 0 else K7 t (cats.map (F3 z)) nets):=hx
  split at hx
  ·rw [(List.mem_replicate.1 hx).2];omega
  ·have:=t2 x hx;omega
 ·show (if exempt=true then List.replicate nets.length 0 else K7 t (cats.map (F3 z)) nets).length=nets.length
  split
  ·exact D7L
  ·exact t1
 ·have hx:x∈(if exempt=true then List.replicate nets.length 0 else K7 t (cats.map (F3 z)) nets):=hx
  split at hx
  ·rw [(List.mem_replicate.1 hx).2];exact D7l _
  ·exact (t2 x hx).1
 ·show 0≤(if t.incl=true then ship - N6 t ship z.ship else ship)∧(if t.incl=true then ship - N6 t ship z.ship else ship)≤10000000000000
  split<;>omega
 ·show 0≤(if exempt=true then 0 else N6 t ship z.ship)∧(if exempt=true then 0 else N6 t ship z.ship)≤10000000000000
  split<;>omega
theorem B3M {t:Tax} {z:K3} {cats:List C8} {nets:List Int} {ship:Int} (h:A2C t z cats nets ship) (exempt:Bool) :
  A2 (L4 t z exempt cats nets ship).goods≤10000000000000∧-10000000000000≤A2 (L4 t z exempt cats nets ship).goods∧A2 (L4 t z exempt cats nets ship).taxes≤10000000000000:=by
 obtain ⟨r1,r2⟩:=A3C h
 obtain ⟨t1,t2⟩:=A6D (t:=t) h.nets r1 r2
 have hs:=h.nets.sum
 have hle:∀ i,i<nets.length→gI (K7 t (cats.map (F3 z)) nets) i≤gI nets i:=fun i hi=>B7v h.nets r1 r2 hi
 have h0:∀ i,i<nets.length→0≤gI (K7 t (cats.map (F3 z)) nets) i:=fun i hi=>(t2 _ (A7 (by omega))).1
 have hn0:∀ i,i<nets.length→0≤gI nets i:=fun i hi=>h.nets.pos _ (A7 hi)
 have hrn:=A6u nets
 have hg:A2 (A2G t (K7 t (cats.map (F3 z)) nets) nets)≤A2 ((List.range nets.length).map (gI nets)):=by
  refine A6B _ _ _ fun i hi=>?_
  have:=h0 i hi
  split<;>omega
 have hg0:0≤A2 (A2G t (K7 t (cats.map (F3 z)) nets) nets):=C1 fun x hx=>by
  obtain ⟨i,hi,rfl⟩:=D6Z.1 hx
  have hi:=D6T.1 hi
  have h1:=hle i hi
  have h2:=hn0 i hi
  split<;>omega
 have ht:A2 (K7 t (cats.map (F3 z)) nets)≤A2 ((List.range nets.length).map (gI nets)):=by
  have e:=A6u (K7 t (cats.map (F3 z)) nets)
  rw [t1] at e
  rw [←e]
  exact A6B _ _ _ fun i hi=>hle i hi
 rw [hrn] at hg ht
 refine ⟨by show A2 (A2G _ _ _)≤_;omega,by show _≤A2 (A2G _ _ _);omega,?_⟩
 show A2 (if exempt=true then List.replicate nets.length 0 else K7 t (cats.map (F3 z)) nets)≤_
 split
 ·have e:∀ n,A2 (List.replicate n (0:Int))=0:=fun n=>by
   induction n with
   | zero=>rfl
   | succ n ih=>rw [List.replicate_succ,J7,ih];rfl
  rw [e];omega
 ·omega
theorem C2L (t:Tax) {k:Nat} (hk:k<3):Z8 (L1 t).zones (Q3 k)=some (D7 t.zones k):=by
 have e:∀ j,(D7 t.zones j).name=Q3 j:=fun j=>by unfold D7;split<;>rfl
 have h:(L1 t).zones=[D7 t.zones 0,D7 t.zones 1,D7 t.zones 2]:=rfl
 have d01:((Q3 (0:Nat)).toList==(Q3 (1:Nat)).toList)=false:=by kernel_rfl
 have d02:((Q3 (0:Nat)).toList==(Q3 (2:Nat)).toList)=false:=by kernel_rfl
 have d12:((Q3 (1:Nat)).toList==(Q3 (2:Nat)).toList)=false:=by kernel_rfl
 unfold Z8
 rw [h]
 rcases lt3 hk with rfl | rfl | rfl
 ·rw [D9t (by rw [e];exact D8S _)]
 ·rw [D9u (by rw [e,d01];simp),D9t (by rw [e];exact D8S _)]
 ·rw [D9u (by rw [e,d02];simp),D9u (by rw [e,d12];simp),D9t (by rw [e];exact D8S _)]
theorem B8i {t:Tax} (h:taxC t=true) {s:C8} {z:K3} (hz:Z8 t.zones s=some z):Y6 z=true:=by
 unfold taxC at h
 simp only [D6I] at h
 obtain ⟨k,hk,rfl⟩:=D5 (D9e hz)
 exact A4q.1 h.2.1 k hk
end Go.Proofs.YtaapofnkmpiknaaGreat
