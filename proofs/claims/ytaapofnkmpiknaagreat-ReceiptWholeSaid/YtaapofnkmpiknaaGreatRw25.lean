/- Part 25 of the proof: contracts of the functions that the law reaches -/
import Derived.Test.YtaapofnkmpiknaaGreatRw24
set_option maxRecDepth 100000
set_option linter.unusedVariables false
set_option linter.unusedSimpArgs false
namespace Go.Proofs.YtaapofnkmpiknaaGreat
open Go Go.Ab
attribute [local irreducible] upd del
theorem B6U {kn:C8→Bool} {l:List E8} (h:∀ x∈l,J8 kn x=false):O2 kn l=O2 (fun _=>true) l:=by
 unfold O2
 rw [D7P.2 fun x hx=>by rw [h x hx];simp,D7P.2 fun x hx=>by
  have:=h x hx
  simp only [J8,D5T,D5r] at this
  unfold J8;rw [this.2];simp]
theorem C3y (items:List Ab.Item) (l:List E8) (hi:Sm items.length) (hl:Sm l.length) (st:St):S P 160 [A6 4 E3 items,A6 3 I0 l] st fun v st'=>v=eI (O2 (known items) l)∧st'=st:=by
 refine F1 [] Tryz.func160 ?_
 refine lp l.length [0,1,5] (fun i vs s=>(∀ k,k<i→J8 (known items) (l.getD k default)=false)∧vs=[A6 4 E3 items,A6 3 I0 l,eI i]∧s=st) ?_ ?_
 ·conv=>whnf
  exact ⟨fun k hk=>absurd hk (by omega),rfl,rfl⟩
 ·rintro i vs st' hi2 ⟨hok,rfl,rfl⟩
  conv=>whnf
  cases h:decide ((i:Int)<(l.length:Int))
  ·obtain rfl:=C5 h hi2
   conv=>whnf
   refine H8 (B7W l _) ?_
   rw [B6U (kn:=known items) fun x hx=>by obtain ⟨k,hk,rfl⟩:=D3 hx;exact hok k hk]
   exact ⟨rfl,rfl⟩
  ·have hi':=D9 h
   conv=>whnf
   refine B8 (fun h1=>?_) (fun h1=>?_)<;>rw [h1]
   ·have hs:l.length≤1000:=by have:=D5o h1;omega
    have hc:O2 (known items) l=match l.find? (J8 (known items)) with
     | some x=>if known items x.sku=true then 2 else 7
     | none=>if (decide (L5 l>100000)||decide (J5 l>10000000000000))=true then 5 else 0:=if_neg (by omega)
    have n1:=B4n items (l.getD (i:Int).toNat default).sku hi st'
    have n3:=A2D (l.getD (i:Int).toNat default).price 1000000000 st'
    have yes:J8 (known items) (l.getD (i:Int).toNat default)=false→∀ k,k<i+1→J8 (known items) (l.getD k default)=false:=fun h=>H4 hok h
    have no:J8 (known items) (l.getD (i:Int).toNat default)=true→O2 (known items) l=if known items (l.getD i default).sku=true then 2 else 7:=fun h=>by
     rw [hc,A4d hi' hok h]
    have e:J8 (known items) (l.getD (i:Int).toNat default)=!(!decide (O8 items (l.getD (i:Int).toNat default).sku<0)&&(!decide ((l.getD (i:Int).toNat default).qty<0)&&!decide ((l.getD (i:Int).toNat default).qty>100000)&&O6 0 1000000000 (l.getD (i:Int).toNat default).price)):=by
     unfold J8 lineC known;congr 1;congr 1
     ·rw [←decide_not];exact D7a.2 (by omega)
     ·congr 1;unfold O6;congr 1<;>(rw [←decide_not];exact D7a.2 (by omega))
    have e2:known items (l.getD i default).sku=!decide (O8 items (l.getD (i:Int).toNat default).sku<0):=by
     unfold known;rw [←decide_not];exact D7a.2 (by rw [D5y];omega)
    rw [e] at yes no
    rw [e2] at no
    generalize O8 items (l.getD (i:Int).toNat default).sku=F at *
    generalize O6 0 1000000000 (l.getD (i:Int).toNat default).price=b3 at n3 yes no
    clear e e2 hc
    repeat' ((conv=>whnf);first | refine ⟨rfl,⟨by omega,by omega⟩,?_⟩ | refine B4 n1 ?_ | refine B4 n3 ?_ | cases b3 | (refine B8 (fun h=>?_) (fun h=>?_)<;>rw [h]))
    all_goals (conv=>whnf)
    all_goals first
     | (refine ⟨?_,rfl⟩;rw [no (by simp only [*,D6a,D5K,D5R,D5S]),if_neg (by simp only [*];simp)];rfl)
     | (refine ⟨?_,rfl⟩;rw [no (by simp only [*,D6a,D5K,D5R,D5S]),if_pos (by simp only [*,D5S])];rfl)
     | (refine ⟨rfl,?_⟩;conv=>whnf
        exact nx hi' ⟨yes (by simp only [*,D5S,D6g,D6a]),by rw [B3 (by omega)],rfl⟩)
   ·have:=D5q h1
    conv=>whnf
    refine H8 (B7W l _) ?_
    exact ⟨by rw [show O2 (known items) l=6 from if_pos (by omega),show O2 (fun _=>true) l=6 from if_pos (by omega)];rfl,rfl⟩
theorem C3F (l:List E8) (hl:l.length≤1000) (hok:∀ x∈l,lineC x=true) (hm:O2 (fun _=>true) l=0) (hN:(U3 l).length≤100000) (st:St):S P 161 [A6 3 I0 l] st fun v st'=>v=C6 (U3 l)∧st'=st:=by
 refine A0A (ty:=223) ?_
 refine F1 [] Tryz.func161 ?_
 refine B4 (B7W l _) ?_
 rw [hm];conv=>whnf
 refine lp l.length [0,3,4] (fun i vs s=>∃ sv,vs=[A6 3 I0 l,sv,eI i]∧E0 223 3 Y4 (G2 l i) st sv s) ?_ ?_
 ·conv=>whnf
  exact ⟨.emp,rfl,E0.start _ _ _ _⟩
 ·rintro i vs st' hi ⟨sv,rfl,hc⟩
  conv=>whnf
  cases h:decide ((i:Int)<(l.length:Int))
  ·obtain rfl:=C5 h hi
   conv=>whnf
   exact hc
  ·have hi':=D9 h
   have hx:lineC (l.getD (i:Int).toNat default)=true:=hok _ (A7 hi')
   obtain ⟨⟨q0,q1⟩,_⟩:=(A0r _).1 hx
   have hq:(l.getD (i:Int).toNat default).qty=((l.getD i default).qty.toNat:Int):=by rw [D5y] at *;omega
   have hlt:=fun {j} (hj:j<(l.getD i default).qty.toNat)=>B2a hi' hj
   generalize hn:(l.getD i default).qty.toNat=n at *
   conv=>whnf
   refine lp n [0,3,4,5] (fun j vs s=>∃ sv,vs=[A6 3 I0 l,sv,eI i,eI j]∧E0 223 3 Y4 (G2 l i++List.replicate j (lnU l i)) st sv s) ?_ ?_
   ·conv=>whnf
    exact ⟨sv,rfl,by rw [List.replicate_zero,D7f];exact hc⟩
   ·clear hc
    rintro j vs s hj ⟨sv,rfl,hc⟩
    conv=>whnf
    refine E4 ?_
    rw [hq]
    cases h:decide ((j:Int)<(n:Int))
    ·obtain rfl:=C5 h hj
     conv=>whnf
     refine F8 ?_
     refine nx hi' ⟨sv,by rw [B3 (by omega)],?_⟩
     unfold G2;rw [hn];exact hc
    ·have hj':=D9 h
     have h5:=hlt hj'
     have h6:(G2 l l.length).length≤100000:=hN
     conv=>whnf
     refine E4 ?_
     refine E0.app (q:=C0P) (y:=lnU l i) rfl rfl rfl rfl rfl rfl (by show (_+1) * 24≤140737488355328;omega) hc (fun sv' s' hc'=>?_);conv=>whnf
     refine F8 ?_
     exact nx hj' ⟨sv',by rw [B3 (by omega)],by rw [List.replicate_succ',←D6M];exact hc'⟩
theorem B5X (items:List Ab.Item) (l:List E8) (hi:Sm items.length) (hl:l.length≤1000) (hk:∀ x∈l,known items x.sku=true) (st:St):S P 116 [A6 4 E3 items,A6 3 I0 l] st fun v st'=>v=A6 4 E3 (C2 items l)∧st'=st:=by
 refine A0A (ty:=86) ?_
 refine F1 [] Tryz.func116 ?_
 refine lp l.length [0,1,5,6] (fun i vs s=>∃ sv,vs=[A6 4 E3 items,A6 3 I0 l,sv,eI i]∧E0 86 4 E3 (C2 items (l.take i)) st sv s) ?_ ?_
 ·conv=>whnf
  exact ⟨.emp,rfl,E0.start _ _ _ _⟩
 ·rintro i vs st' hi2 ⟨sv,rfl,hc⟩
  conv=>whnf
  cases h:decide ((i:Int)<(l.length:Int))
  ·obtain rfl:=C5 h hi2
   rw [D5w] at hc;conv=>whnf
   exact hc
  ·have hi':=D9 h
   have hmem:l.getD (i:Int).toNat default∈l:=A7 hi'
   have hkn:=hk _ hmem
   simp only [known,D5n] at hkn
   have hlt:O8 items (l.getD (i:Int).toNat default).sku<(items.length:Int):=(A8T (fun x:Ab.Item=>x.sku.toList==(l.getD (i:Int).toNat default).sku.toList) items).2
   have hlen:(C2 items (l.take i)).length=i:=by unfold C2;rw [D5p,D5v];omega
   conv=>whnf
   refine E4 ?_
   refine H8 (B4n items (l.getD (i:Int).toNat default).sku (by omega) _) ?_
   refine B8 (fun h1=>?_) (fun h1=>?_)
   ·exact absurd (D5o h1) (by omega)
   ·rw [h1];conv=>whnf
    refine E4 ?_
    refine E0.app (q:=r86) (y:=items.getD (O8 items (l.getD (i:Int).toNat default).sku).toNat default) rfl rfl rfl rfl rfl rfl (by show (_+1) * 48≤140737488355328;omega) hc (fun sv' s' hc'=>?_);conv=>whnf
    refine F8 ?_
    refine nx hi' ⟨sv',by rw [B3 (by omega)],?_⟩
    unfold C2 at hc' ⊢
    rw [A1D hi'];exact hc'
end Go.Proofs.YtaapofnkmpiknaaGreat
namespace Go.Proofs.YtaapofnkmpiknaaGreat
open Go Go.Ab
theorem B3j (l:List B1) (o:List Int):(P2 l o).Perm o:=by
 have h:=(A1m l o).map fun e:QE=>gI o e.2.toNat
 rw [D7L] at h
 have e:(List.range o.length).map ((fun e:QE=>gI o e.2.toNat) ∘ B1C l o)=o:=by
  refine D7S (by simp) fun k h1 h2=>?_
  rw [List.getElem_map,List.getElem_range]
  show o.getD k default=_
  rw [D5l,D5s h2];rfl
 rw [e] at h;exact h
end Go.Proofs.YtaapofnkmpiknaaGreat
namespace Go.Proofs.YtaapofnkmpiknaaGreat
open Go Go.Ab
attribute [local irreducible] upd del
def B9 (v n:Int):Int:=v % 18446744073709551616 % n
theorem D0 (v:Int) {n:Int} (h:0<n):0≤B9 v n∧B9 v n<n:=⟨D6I _ (by omega),D6w _ h⟩
theorem B9G (x:Int):IntKind.u64.wrap x=x % 18446744073709551616:=rfl
theorem C2X (v:Int) {n:Int} (h0:0<n) (h1:n≤9223372036854775807):IntKind.i64.wrap (Int.tmod (IntKind.u64.wrap v) (IntKind.u64.wrap n))=B9 v n:=by
 have h2:=D0 v h0
 have e1:IntKind.u64.wrap n=n:=by rw [B9G];omega
 have e2:Int.tmod (IntKind.u64.wrap v) n=B9 v n:=by rw [D6Y (by rw [B9G];omega)];rfl
 rw [e1,e2,A5 (by omega) (by omega)]
theorem A0x (v n:Int) (h0:0<n) (h1:n≤9223372036854775807) (st:St):S P 22 [eI v,eI n] st fun r st'=>r=eI (B9 v n)∧st'=st:=by
 refine F1 [] Tryz.func22 ?_
 rw [D5t (show ¬ IntKind.u64.wrap n=0 by rw [B9G];omega)];conv=>whnf
 refine ⟨?_,rfl⟩
 rw [←C2X v h0 h1];rfl
theorem O9 (v n:Int) (h0:0<n) (h1:n≤9223372036854775807) (st:St):S P 24 [eI v,eI n] st fun r st'=>r=eI (B9 v n)∧st'=st:=by
 refine F1 [] Tryz.func24 ?_
 rw [D5t (show ¬ IntKind.u64.wrap n=0 by rw [B9G];omega)];conv=>whnf
 refine ⟨?_,rfl⟩
 rw [←C2X v h0 h1];rfl
def Y3 (c:Int):C8:=B1T [IntKind.u8.wrap c]
def A1e (n:Int):C8:=Y3 (97+B9 n 8)
def A5o (n:Int):C8:=Y3 (120+B9 n 3)
def idN (n:Int):C8:=(⟨#[112]⟩:C8)++Y3 (48+B9 n 10)
def A5e (n:Int):C8:=(⟨#[99]⟩:C8)++Y3 (48+B9 n 3)
theorem B2c (c x:Int):IntKind.u8.wrap (c+IntKind.u8.wrap x)=IntKind.u8.wrap (c+x):=by
 show (c+x % 256) % 256=(c+x) % 256
 omega
theorem C3U (n:Int) (st:St):S P 36 [eI n] st fun r st'=>r=eS (A1e n)∧st'=st:=by
 refine F1 [] Tryz.func36 ?_
 refine H8 (A0x n 8 (by decide) (by decide) _) ?_
 refine ⟨?_,rfl⟩
 show AV.str (B1T [IntKind.u8.wrap (97+IntKind.u8.wrap (B9 n 8))])=_
 rw [B2c];rfl
theorem A4H (n:Int) (st:St):S P 155 [eI n] st fun r st'=>r=eS (A5o n)∧st'=st:=by
 refine F1 [] Tryz.func155 ?_
 refine H8 (A0x n 3 (by decide) (by decide) _) ?_
 refine ⟨?_,rfl⟩
 show AV.str (B1T [IntKind.u8.wrap (120+IntKind.u8.wrap (B9 n 3))])=_
 rw [B2c];rfl
theorem D2B (n:Int) (st:St):S P 207 [eI n] st fun r st'=>r=eS (idN n)∧st'=st:=by
 refine F1 [] Tryz.func207 ?_
 refine H8 (A0x n 10 (by decide) (by decide) _) ?_
 refine ⟨?_,rfl⟩
 show AV.str ((⟨#[112]⟩:C8)++B1T [IntKind.u8.wrap (48+IntKind.u8.wrap (B9 n 10))])=_
 rw [B2c];rfl
theorem C2v (n:Int) (st:St):S P 113 [eI n] st fun r st'=>r=eS (A5e n)∧st'=st:=by
 refine F1 [] Tryz.func113 ?_
 refine H8 (A0x n 3 (by decide) (by decide) _) ?_
 refine ⟨?_,rfl⟩
 show AV.str ((⟨#[99]⟩:C8)++B1T [IntKind.u8.wrap (48+IntKind.u8.wrap (B9 n 3))])=_
 rw [B2c];rfl
def B4d (s:C8):Nat→Int
 | 0=>s.size
 | i+1=>IntKind.i64.wrap (IntKind.i64.wrap (7 * B4d s i)+chr s i)
def A2C (s:C8):Int:=B4d s (min s.size 8)
theorem C2s (s:C8) (i:Nat):0≤chr s i∧chr s i<256:=by
 unfold chr;split
 ·rename_i h;have:=(s[i]'h).toNat_lt;omega
 ·omega
theorem B1m (s:C8) (st:St):S P 114 [eS s] st fun r st'=>r=eI (A2C s)∧st'=st:=by
 refine F1 [] Tryz.func114 ?_
 refine lp (min s.size 8) [0,3,4] (fun i vs t=>vs=[eS s,eI (B4d s i),eI i]∧t=st) ?_ ?_
 ·conv=>whnf
  exact ⟨rfl,rfl⟩
 ·rintro i vs t hi ⟨rfl,rfl⟩
  conv=>whnf
  refine B8 (fun h1=>?_) (fun h1=>?_)<;>rw [h1]<;>simp only [D5n,D5m] at h1
  ·conv=>whnf
   refine B8 (fun h2=>?_) (fun h2=>?_)<;>rw [h2]<;>simp only [D5n,D5m] at h2
   ·have hi':i<min s.size 8:=by omega
    conv=>whnf
    refine C5t (i:=i) rfl (by omega) ?_;conv=>whnf
    refine F8 ?_
    refine nx hi' ⟨?_,rfl⟩
    rw [B3 (by omega)]
    have hc:IntKind.i64.wrap (chr s i)=chr s i:=A5 (by have:=C2s s i;omega) (by have:=C2s s i;omega)
    show [eS s,eI (IntKind.i64.wrap (IntKind.i64.wrap (7 * B4d s i)+IntKind.i64.wrap (chr s i))),eI ((i+1:Nat):Int)]=_
    rw [hc];rfl
   ·obtain rfl:i=min s.size 8:=by omega
    conv=>whnf
    exact ⟨rfl,rfl⟩
  ·obtain rfl:i=min s.size 8:=by omega
   conv=>whnf
   exact ⟨rfl,rfl⟩
def C2D (r:G6):Bool:=decide ((r.items.length:Int)<60)&&decide ((r.promos.length:Int)<30)&&decide ((r.tax.zones.length:Int)<30)&&decide ((r.policy.order.length:Int)<30)&&decide ((r.policy.credit.length:Int)<30)
theorem C8H (r:G6) (st:St):S P 43 [G9 r] st fun v st'=>v=.bool (C2D r)∧st'=st:=by
 refine SyW [1] Tryz.func43 ?_
 unfold C2D
 repeat' ((conv=>whnf);first | (refine B8 (fun h=>?_) (fun h=>?_)<;>rw [h]))
 all_goals (conv=>whnf)
 all_goals exact ⟨by simp only [D5C,D5K];rfl,rfl⟩
def A6d (l:List C8) (most:Nat) (kinds:Int) (name:Int→C8) (out:List C8) (k:Nat):List C8 :=
 if (decide (out.length<most)&&(l.take 4).any fun s=>B9 (A2C s) kinds==k)=true then out++[name k] else out
def R6 (l:List C8) (most:Nat) (kinds:Int) (name:Int→C8) (k:Nat):List C8:=(List.range k).foldl (A6d l most kinds name) []
theorem A6e (l:List C8) (most:Nat) (kinds:Int) (name:Int→C8) (k:Nat):R6 l most kinds name (k+1)=A6d l most kinds name (R6 l most kinds name k) k:=by
 unfold R6;rw [D6L,D7n];rfl
theorem B8j (l:List C8) (most:Nat) (kinds:Int) (name:Int→C8) (k:Nat):(R6 l most kinds name k).length≤k:=by
 induction k with
 | zero=>exact D5u _
 | succ k ih =>
  rw [A6e];unfold A6d
  split
  ·rw [D5x];show _+1≤_;omega
  ·omega
theorem B8k (l:List C8) (most kinds:Nat) (name:Int→C8) (g:FuncId) (hk:0<kinds) (hk2:kinds≤100) (hg:∀ (n:Int) (st:St),S P g [eI n] st fun v st'=>v=eS (name n)∧st'=st) (st:St) :
  S P 112 [C7 l,eI most,eI kinds,.fn (.func g) [] []] st fun v st'=>v=C7 (R6 l most kinds name kinds)∧st'=st:=by
 refine A0A (ty:=9) ?_
 refine F1 [] Tryz.func112 ?_
 refine lp kinds [0,1,2,3,9,10] (fun k vs s=>∃ sv,vs=[C7 l,eI most,eI kinds,.fn (.func g) [] [],sv,eI k]∧E0 9 1 eS (R6 l most kinds name k) st sv s) ?_ ?_
 ·conv=>whnf
  exact ⟨.emp,rfl,E0.start _ _ _ _⟩
 ·rintro k vs s hk1 ⟨sv,rfl,hc⟩
  conv=>whnf
  cases hd:decide ((k:Int)<(kinds:Int))
  ·obtain rfl:=C5 hd hk1
   conv=>whnf
   exact hc
  ·have hk':=D9 hd
   have hlen:=B8j l most kinds name k
   have hS:=A6e l most kinds name k
   unfold A6d at hS;conv=>whnf
   refine lp (min l.length 4) [0,1,2,3,9,10,11] (fun i vs t=>(∀ j,j<i→(B9 (A2C (l.getD j default)) kinds==k)=false)∧vs=[C7 l,eI most,eI kinds,.fn (.func g) [] [],sv,eI k,eI i]∧t=s) ?_ ?_
   ·conv=>whnf
    exact ⟨fun j hj=>absurd hj (by omega),rfl,rfl⟩
   ·rintro i vs t hi ⟨hok,rfl,rfl⟩
    have hstop:i=min l.length 4→((l.take 4).any fun s=>B9 (A2C s) kinds==k)=false:=fun e=>by
     refine D6r.2 fun x hx=>?_
     obtain ⟨j,hj,rfl⟩:=D3 hx
     rw [D5v] at hj
     rw [show (l.take 4).getD j default=l.getD j default by rw [D5l,D5l,D5z (by omega)],hok j (by omega)]
     simp
    have hsv:(sv=.emp∧(R6 l most kinds name k).length=0)∨∃ b,sv=.own 1 b 0 (R6 l most kinds name k).length:=by
     rcases hc with ⟨h0,h1,_⟩ | ⟨_,b,_,_,h1,_⟩
     ·exact .inl ⟨h1,h0⟩
     ·exact .inr ⟨b,h1⟩
    have hrun:∀ {t':St} {sv':AV},E0 9 1 eS (R6 l most kinds name (k+1)) st sv' t'→∃ sv,[C7 l,eI most,eI kinds,.fn (.func g) [] [],sv',eI (IntKind.i64.wrap ((k:Int)+1))]=[C7 l,eI most,eI kinds,.fn (.func g) [] [],sv,eI ((k+1:Nat):Int)]∧E0 9 1 eS (R6 l most kinds name (k+1)) st sv t':=fun {t' sv'} h=>⟨sv',by rw [B3 (by omega)],h⟩
    conv=>whnf
    refine B8 (fun h1=>?_) (fun h1=>?_)<;>rw [h1]<;>simp only [D5n,D5m] at h1
    ·conv=>whnf
     refine B8 (fun h2=>?_) (fun h2=>?_)<;>rw [h2]<;>simp only [D5n,D5m] at h2
     ·have hi':i<min l.length 4:=by omega
      rcases hsv with ⟨rfl,hl0⟩ | ⟨b,rfl⟩
      all_goals
       conv=>whnf
       refine B8 (fun h3=>?_) (fun h3=>?_)<;>rw [h3]<;>simp only [D5n,D5m] at h3
       ·conv=>whnf
        refine E4 ?_
        refine H8 (B1m _ _) ?_
        refine H8 (A0x _ (kinds:Int) (by omega) (by omega) _) ?_
        cases h4:(B9 (A2C (l.getD (i:Int).toNat default)) (kinds:Int)==(k:Int))
        ·conv=>whnf
         refine F8 ?_
         exact nx hi' ⟨H4 hok h4,by rw [B3 (by omega)],rfl⟩
        ·have hm:(decide ((R6 l most kinds name k).length<most)&&(l.take 4).any fun s=>B9 (A2C s) kinds==k)=true:=by
          rw [D5r,D5n,D6Q]
          refine ⟨by omega,l.getD (i:Int).toNat default,?_,h4⟩
          rw [show l.getD (i:Int).toNat default=(l.take 4).getD i default by rw [D5l,D5l,D5z (by omega)];rfl]
          exact A7 (by rw [D5v];omega)
         rw [if_pos hm] at hS;conv=>whnf
         refine H8 (hg _ _) ?_
         refine E0.app (q:=r9) rfl rfl rfl rfl rfl (by rfl) (by show ((R6 l most kinds name k).length+1) * 16≤140737488355328;omega) hc (fun sv' t' hc'=>?_);conv=>whnf
         refine F8 ?_
         exact nx hk' (hrun (by rw [hS];exact hc'))
       ·rw [if_neg (by rw [D5t (by omega)];simp)] at hS;conv=>whnf
        refine F8 ?_
        exact nx hk' (hrun (by rw [hS];exact hc))
     ·rw [if_neg (by rw [hstop (by omega)];simp)] at hS;conv=>whnf
      refine F8 ?_
      exact nx hk' (hrun (by rw [hS];exact hc))
    ·rw [if_neg (by rw [hstop (by omega)];simp)] at hS;conv=>whnf
     refine F8 ?_
     exact nx hk' (hrun (by rw [hS];exact hc))
def P9 (s:U7):U7:=⟨R6 s.skus 3 8 A1e 8,R6 s.cats 2 3 A5o 3⟩
theorem B5U (s:U7) (st:St):S P 208 [A3I s] st fun v st'=>v=A3I (P9 s)∧st'=st:=by
 have h1:=fun st=>B8k s.skus 3 8 A1e 36 (by decide) (by decide) C3U st
 have h2:=fun st=>B8k s.cats 2 3 A5o 155 (by decide) (by decide) A4H st
 unfold P9
 generalize R6 s.skus 3 8 A1e 8=a at h1 ⊢
 generalize R6 s.cats 2 3 A5o 3=b at h2 ⊢
 refine A2c ?_
 refine F1 [1] Tryz.func208 ?_
 intro b2 hb;conv=>whnf
 refine ⟨[7],[],List.range 8,by kernel_rfl,?_⟩;conv=>whnf
 refine cqW (h1 _) ?_
 refine cqW (h2 _) ?_
 refine X1 (A0 ..) rfl ?_
 refine I1 (A0 ..) (A4 ..) ?_
 exact ⟨rfl,((E5.refl st).upd hb).over hb⟩
def J9 (l:List C8):List C8:=R6 l 3 3 A5e 3
theorem B5K (l:List C8) (st:St):S P 53 [C7 l] st fun v st'=>v=C7 (J9 l)∧st'=st:=by
 refine F1 [] Tryz.func53 ?_
 refine H8 (B8k l 3 3 A5e 113 (by decide) (by decide) C2v _) ?_
 exact ⟨rfl,rfl⟩
def A5W (x:E8):E8:=⟨A1e (A2C x.sku),B9 x.qty 10,B9 x.price 4000⟩
def A6C (l:List E8):List E8:=(l.take 8).map A5W
def N8 (l:List Ab.Item) (k:Nat):Ab.Item :=
 if k<l.length then ⟨A1e k,A5o (A2C (l.getD k default).cat),B9 (l.getD k default).price 4000,(l.getD k default).final&&k==7⟩ else ⟨A1e k,A5o k,100+37 * k,false⟩
def F9 (l:List Ab.Item):List Ab.Item:=(List.range 8).map (N8 l)
theorem A5N {α : Type} (f:Nat→α) (k:Nat):(List.range (k+1)).map f=(List.range k).map f++[f k]:=by rw [D6L,D5P];rfl
theorem B5M (l:List Ab.Item) (st:St):S P 100 [A6 4 E3 l] st fun v st'=>v=A6 4 E3 (F9 l)∧st'=st:=by
 refine S.post (post:=fun v st'=>∃ base,E5 st base∧E0 86 4 E3 (F9 l) base v st') ?_ (fun v st' ⟨base,hs,hc⟩=>⟨_,st,⟨rfl,rfl⟩,hc.shift.trans (hs.shift _)⟩)
 refine F1 [] Tryz.func100 ?_
 refine lp 8 [0,3,4] (fun k vs s=>∃ sv base,vs=[A6 4 E3 l,sv,eI k]∧E5 st base∧E0 86 4 E3 ((List.range k).map (N8 l)) base sv s) ?_ ?_
 ·conv=>whnf
  exact ⟨.emp,st,rfl,E5.refl _,E0.start _ _ _ _⟩
 ·rintro k vs s hk ⟨sv,base,rfl,hsup,hc⟩
  conv=>whnf
  refine B8 (fun h1=>?_) (fun h1=>?_)<;>rw [h1]<;>simp only [D5n,D5m] at h1
  ·have hk':k<8:=by omega
   have hnext:=A5N (N8 l) k
   have hlen:((List.range k).map (N8 l)).length=k:=by rw [D5p,D5O]
   have w1:IntKind.i64.wrap (100+IntKind.i64.wrap (37 * (k:Int)))=100+37 * (k:Int):=by
    rw [A5 (x:=37 * (k:Int)) (by omega) (by omega),A5 (by omega) (by omega)]
   conv=>whnf
   refine H8 (C3U _ _) ?_
   refine H8 (A4H _ _) ?_
   intro b hb;conv=>whnf
   refine stU (A0 ..) rfl ?_
   rw [B6]
   have hbb:base b=none:=Col.off hc hb
   have hc1:=fun y=>Col.under (y:=y) hc hb
   have hend:∀ {t:St} {Y:L6} {x:AV} {g:Nat→AV} {K:KK},t=upd s b Y→Z5 4 t x=some (1,g)→g 0=E3 (N8 l k)→(∀ sv' t',E0 86 4 E3 ((List.range (k+1)).map (N8 l)) (upd base b Y) sv' t'→K sv' t')→A5p T 22 sv x t K:=fun {t Y x g K} e hs hg hk=>by
    subst e
    refine E0.app (q:=r86) rfl rfl rfl rfl hs hg (by rw [hlen];show (k+1) * 48≤140737488355328;omega) (hc1 Y) (fun sv' t' hc'=>hk sv' t' ?_)
    rw [hnext];exact hc'
   conv=>whnf
   refine B8 (fun h2=>?_) (fun h2=>?_)<;>rw [h2]<;>simp only [D5n,D5m] at h2
   ·have hi:k<l.length:=by omega
    have hp:N8 l k=⟨A1e k,A5o (A2C (l.getD (k:Int).toNat default).cat),B9 (l.getD (k:Int).toNat default).price 4000,(l.getD (k:Int).toNat default).final&&k==7⟩:=by unfold N8;rw [if_pos hi];rfl
    conv=>whnf
    refine ⟨[23,25,27],[],List.range 28,by kernel_rfl,?_⟩;conv=>whnf
    refine E4 ?_
    refine cqW (B1m _ _) ?_
    refine cqW (A4H _ _) ?_
    refine E4 ?_
    refine cqW (O9 _ 4000 (by decide) (by decide) _) ?_
    refine E4 ?_
    refine B8 (fun h3=>?_) (fun h3=>?_)<;>rw [h3] at hp ⊢
    all_goals
     conv=>whnf
     refine stU (A0 ..) (A4 ..) ?_
     rw [B6];conv=>whnf
     refine stU (A0 ..) (A4 ..) ?_
     rw [B6];conv=>whnf
     refine stU (A0 ..) (A4 ..) ?_
     rw [B6];conv=>whnf
     refine I1 (A0 ..) (A4 ..) ?_
     refine hend rfl rfl (by rw [hp];first | rfl | (have e7:((k:Int)==7)=(k==7):=by rw [D8r,D6k,D6k];omega
                                                    rw [D5C,←e7];rfl)) (fun sv' t' hc'=>?_)
     conv=>whnf
     refine F8 ?_
     exact nx hk' ⟨sv',_,by rw [B3 (by omega)],hsup.upd hbb,hc'⟩
   ·have hi:¬ k<l.length:=by omega
    have hp:N8 l k=⟨A1e k,A5o k,100+37 * k,false⟩:=by unfold N8;rw [if_neg hi]
    conv=>whnf
    refine I1 (A0 ..) (A4 ..) ?_
    refine hend rfl rfl (by rw [hp];show AV.agg _=_;rw [w1];rfl) (fun sv' t' hc'=>?_);conv=>whnf
    refine F8 ?_
    exact nx hk' ⟨sv',_,by rw [B3 (by omega)],hsup.upd hbb,hc'⟩
  ·obtain rfl:k=8:=by omega
   conv=>whnf
   exact ⟨base,hsup,hc⟩
end Go.Proofs.YtaapofnkmpiknaaGreat
namespace Go.Ab
open Go
theorem S.lend {P:Program} {f:FuncId} {args args':List AV} {st:St} {q q':AV→Prop} (h:S P f args' st0 fun v s=>q v∧s=st0) (hs:A8 args st args' st0)
  (hq:∀ v c rd sz,q v→Rep rd sz v c→∃ v',q' v'∧∀ rd' sz',Rep rd' sz' v' c):S P f args st fun v s=>q' v∧s=st :=
 ⟨h.1,fun cargs w hr hS=>by
  obtain ⟨h1,h2,h3⟩:=hs w cargs hS hr
  refine (h.2 cargs w h2 h1).mono fun e w' ⟨v,c,s,⟨hqv,hs0⟩,he,hrep,hS',hE⟩=>?_
  subst hs0
  obtain ⟨v',hq',hsol⟩:=hq v c _ _ hqv hrep
  have hE2:Evo st w st w':=⟨hE.os,hE.tape,hE.output,hE.size,fun b hb hn=>⟨(hE.blk b hb rfl).1,hn⟩,hE.szm⟩
  refine ⟨v',c,st,⟨hq',rfl⟩,he,hsol _ _,fun b x hb=>?_,hE2⟩
  obtain ⟨cs,hc⟩:=hS b x hb
  have heap:=(hE.blk b (I2.lt hS hb) rfl).1
  exact ⟨cs,by rw [heap];exact hc.heap,hc.size,hc.len,hc.one,fun i j y hi hy=>by
   obtain ⟨v,hv,hr⟩:=hc.cell i j y hi hy
   exact ⟨v,hv,hE2.rep hr⟩⟩⟩
def So (y y':AV):Prop:=∀ rd sz rd' sz' c,Rep rd sz y c→Rep rd' sz' y' c
inductive SoL:List AV→List AV→Prop
 | nil:SoL [] []
 | cons {a b:AV} {l m:List AV} (h:So a b) (k:SoL l m):SoL (a::l) (b::m)
theorem SoL.len {l m:List AV} (h:SoL l m):l.length=m.length:=by
 induction h with
 | nil=>rfl
 | cons _ _ ih=>simp [ih]
theorem SoL.get {l m:List AV} (h:SoL l m):∀ (j:Nat) (y':AV),m[j]?=some y'→∃ y,l[j]?=some y∧So y y':=by
 induction h with
 | nil=>intro j y' hj;simp at hj
 | cons h k ih =>
  intro j y' hj
  cases j with
  | zero=>simp at hj;subst hj;exact ⟨_,rfl,h⟩
  | succ j=>simp at hj;simpa using ih j y' hj
theorem So.int (k:IntKind) (n:Int):So (.int k n) (.int k n):=fun _ _ _ _ c h=>by cases h;exact .int _ _
theorem So.bool (b:Bool):So (.bool b) (.bool b):=fun _ _ _ _ c h=>by cases h;exact .bool _
theorem So.str (b:ByteArray):So (.str b) (.str b):=fun _ _ _ _ c h=>by cases h;exact .str _
theorem So.junk (y:AV):So y .junk:=fun _ _ _ _ c _=>.junk c
def noA (n:Nat):AV:=.arr 0 n fun _=>.agg []
theorem So.arr (e n:Nat) (f:Nat→AV):So (.arr e n f) (noA n):=fun _ _ _ _ c h=>by
 cases h with
 | arr e n f A c g hc hA hl ho hr hg =>
  exact .arr _ _ _ A c (fun _ _=>undef) hc hA (fun i hi=>rfl) (fun i hi=>rfl) (fun a ha i j hi hj=>absurd hj (by omega)) (fun i j y hi hy=>by simp [cellsOf] at hy)
theorem So.agg {l m:List AV} (h:SoL l m):So (.agg l) (.agg m):=fun _ _ _ _ c hr=>by
 cases hr with
 | agg cs vs hl hg =>
  refine .agg _ _ (by rw [←h.len];exact hl) fun j y c hy hc=>?_
  obtain ⟨y0,h1,h2⟩:=h.get j y hy
  exact h2 _ _ _ _ _ (hg j y0 c h1 hc)
theorem So.tuple {l m:List AV} (h:SoL l m):So (.tuple l) (.tuple m):=fun _ _ _ _ c hr=>by
 cases hr with
 | tuple cs vs hl hg =>
  refine .tuple _ _ (by rw [←h.len];exact hl) fun j y c hy hc=>?_
  obtain ⟨y0,h1,h2⟩:=h.get j y hy
  exact h2 _ _ _ _ _ (hg j y0 c h1 hc)
theorem S.lends {P:Program} {f:FuncId} {args args':List AV} {st:St} {q q':AV→Prop} (h:S P f args' st0 fun v s=>q v∧s=st0) (hs:A8 args st args' st0)
  (hq:∀ v,q v→∃ v',q' v'∧So v v'):S P f args st fun v s=>q' v∧s=st :=
 S.lend h hs fun v c rd sz hv hr=>by
  obtain ⟨v',h1,h2⟩:=hq v hv
  exact ⟨v',h1,fun rd' sz'=>h2 _ _ _ _ _ hr⟩
theorem C6n (st:St):E5 st0 st:=fun b x h=>by cases h
def Le (y y':AV):Prop:=∀ rd sz c,Rep rd sz y c→Rep rd sz y' c
inductive F0:List AV→List AV→Prop
 | nil:F0 [] []
 | cons {a b:AV} {l m:List AV} (h:Le a b) (k:F0 l m):F0 (a::l) (b::m)
theorem Le.refl (y:AV):Le y y:=fun _ _ _ h=>h
theorem F0.refl:∀ l:List AV,F0 l l
 | []=>.nil
 | a::l=>.cons (Le.refl a) (F0.refl l)
theorem F0.len {l m:List AV} (h:F0 l m):l.length=m.length:=by
 induction h with
 | nil=>rfl
 | cons _ _ ih=>simp [ih]
theorem F0.get {l m:List AV} (h:F0 l m):∀ (j:Nat) (y':AV),m[j]?=some y'→∃ y,l[j]?=some y∧Le y y':=by
 induction h with
 | nil=>intro j y' hj;simp at hj
 | cons h k ih =>
  intro j y' hj
  cases j with
  | zero=>simp at hj;subst hj;exact ⟨_,rfl,h⟩
  | succ j=>simp at hj;simpa using ih j y' hj
theorem Le.emp (e:Nat) (f:Nat→AV):Le .emp (.arr e 0 f):=fun rd sz c h=>B8T e f h
theorem Le.agg {l m:List AV} (h:F0 l m):Le (.agg l) (.agg m):=fun rd sz c hr=>by
 cases hr with
 | agg cs vs hl hg =>
  refine .agg _ _ (by rw [←h.len];exact hl) fun j y c hy hc=>?_
  obtain ⟨y0,h1,h2⟩:=h.get j y hy
  exact h2 _ _ _ (hg j y0 c h1 hc)
theorem Le.arr {e n:Nat} {f g:Nat→AV} (h:∀ i,i<n→F0 (cellsOf (f i)) (cellsOf (g i))∧(cellsOf (g i)).all AV.one=true):Le (.arr e n f) (.arr e n g):=fun rd sz c hr=>by
 cases hr with
 | arr e n f A c g' hc hA hl ho hrd hg =>
  refine .arr _ _ _ A c g' hc hA (fun i hi=>by rw [←(h i hi).1.len];exact hl i hi) (fun i hi=>(h i hi).2) hrd fun i j y hi hy=>?_
  obtain ⟨y0,h1,h2⟩:=(h i hi).1.get j y hy
  exact h2 _ _ _ (hg i j y0 hi h1)
theorem Le.arr1 {e:Nat} {f g:Nat→AV} (h:F0 (cellsOf (f 0)) (cellsOf (g 0))) (h1:(cellsOf (g 0)).all AV.one=true):Le (.arr e 1 f) (.arr e 1 g):=Le.arr fun i hi=>by
 obtain rfl:i=0:=by omega
 exact ⟨h,h1⟩
theorem Le.shift {v v':AV} (h:Le v v') (st:St):A8 [v] st [v'] st:=A8.one fun w c hS hr=>⟨hS,Evo.refl _ _,h _ _ _ hr⟩
end Go.Ab
namespace Go.Proofs.YtaapofnkmpiknaaGreat
open Go Go.Ab
def A8O (t:Tax) (rate:Int):Int:=10000+(if t.incl=true then rate else 0)
def N5 (t:Tax) (x rate:Int):Int:=(X2 x rate (A8O t rate) t.round).1
theorem C1b {q r den round x:Int} (h:q * den+r≤x * den) (h0:0≤r) (h1:r<den):q≤x∧S8 q r den round≤x:=by
 have hq:q≤x:=by
  rcases Int.lt_or_le x q with e | e
  ·have:(x+1) * den≤q * den:=D7j (by omega) (by omega)
   rw [D7Q,Int.one_mul] at this;omega
  ·exact e
 refine ⟨hq,?_⟩
 by_cases e:q=x
 ·subst e
  have hr:r=0:=by omega
  subst hr
  unfold S8
  split
  ·omega
  ·split
   ·split<;>omega
   ·split
    ·rename_i h2;omega
    ·omega
 ·unfold S8
  split
  ·omega
  ·split<;>split<;>omega
theorem C1a {q r den round:Int} (h:0≤q):0≤S8 q r den round:=by
 unfold S8
 split
 ·omega
 ·split<;>split<;>omega
theorem C4m {x num den round:Int} (hx:0≤x) (hn:0≤num) (hd:num≤den) (h0:0<den):0≤(X2 x num den round).1∧(X2 x num den round).1≤x:=by
 have h1:0≤x * num:=D6K hx hn
 have h2:x * num≤x * den:=D6i hd hx
 have e1:=D6v (x * num) den
 have e2:=D6I (x * num) (show den≠0 by omega)
 have e3:=D6w (x * num) h0
 have e4:0≤x * num / den:=D6T h1 (by omega)
 have h3:=C1b (q:=x * num / den) (r:=x * num % den) (den:=den) (round:=round) (x:=x) (by rw [D7B (x * num / den) den];omega) e2 e3
 have h4:=C1a (q:=x * num / den) (r:=x * num % den) (den:=den) (round:=round) e4
 unfold X2
 split
 ·exact ⟨D5W _,hx⟩
 ·split
  ·exact ⟨D5W _,hx⟩
  ·split
   ·exact ⟨D5W _,hx⟩
   ·exact ⟨h4,h3.2⟩
theorem A2N {t:Tax} {x rate:Int} (hx:0≤x) (hr:0≤rate∧rate≤10000):0≤N5 t x rate∧N5 t x rate≤x:=by
 refine C4m hx hr.1 ?_ ?_
 ·unfold A8O;split<;>omega
 ·unfold A8O;split<;>omega
def Y7 (l:List K2) (s:C8):Option K2:=l.find? fun z=>z.name.toList==s.toList
def E9 (z:K2) (c:C8):Int:=match z.rates.find? (fun x=>x.cat.toList==c.toList) with
 | some x=>x.rate
 | none=>z.rest
theorem A4u {z:K2} (h:X3 z=true):(0≤z.rest∧z.rest≤10000)∧(0≤z.ship∧z.ship≤10000)∧z.rates.length≤40∧∀ x∈z.rates,0≤x.rate∧x.rate≤10000:=by
 unfold X3 at h
 simp only [D5r,D5F,D6z,D5m,D5T] at h
 obtain ⟨⟨⟨⟨h1,h2⟩,h3⟩,h4⟩,h5,h6⟩:=h
 refine ⟨E6.1 h2,E6.1 h3,by omega,fun x hx=>?_⟩
 obtain ⟨k,hk,rfl⟩:=D3 hx
 have:=A4a.1 h5 k hk
 unfold A4m at this
 simp only [D5F,D6z,D5T] at this
 exact E6.1 this.2
theorem B6b {z:K2} (h:X3 z=true) (c:C8):0≤E9 z c∧E9 z c≤10000:=by
 obtain ⟨h1,h2,h3,h4⟩:=A4u h
 unfold E9
 split
 ·rename_i x hx;exact h4 x (D7K hx)
 ·exact h1
def W0 (t:Tax) (rates nets:List Int):List Int:=(List.range nets.length).map fun i=>N5 t (gI nets i) (gI rates i)
def A8c (rates:List Int) (i:Nat):List Nat:=(List.range rates.length).filter fun k=>gI rates k==gI rates i
def I7 (rates nets:List Int) (i:Nat):List Int:=(A8c rates i).map (gI nets)
def A0s (rates:List Int) (i:Nat):Nat:=((List.range i).filter fun k=>gI rates k==gI rates i).length
def A1z (t:Tax) (rates nets:List Int) (i:Nat):Int:=gI (D1 (N5 t (A2 (I7 rates nets i)) (gI rates i)) (I7 rates nets i)) (A0s rates i)
def G7 (t:Tax) (rates nets:List Int):List Int:=(List.range nets.length).map (A1z t rates nets)
def K5 (t:Tax) (rates nets:List Int):List Int:=if t.byOrder=true then G7 t rates nets else W0 t rates nets
structure A4y (nets:List Int):Prop where
 len:nets.length≤1000
 pos:∀ x∈nets,0≤x
 sum:A2 nets≤10000000000000
theorem B1U {a b:List Int} (hs:a.Sublist b) (hb:∀ x∈b,0≤x):A2 a≤A2 b:=by
 induction hs with
 | slnil=>exact D5W _
 | cons x _ ih =>
  have h1:=ih fun u hu=>hb u (D5M _ hu)
  have h2:=hb x (D5N ..)
  rw [J3];omega
 | cons_cons x _ ih =>
  have h1:=ih fun u hu=>hb u (D5M _ hu)
  rw [J3,J3];omega
theorem A5Z (l:List Int):(List.range l.length).map (gI l)=l:=by
 refine D7S (by rw [D5p,D5O]) fun i h1 h2=>?_
 rw [List.getElem_map,List.getElem_range];unfold gI;rw [D5l,D5s h2];rfl
theorem A5O {rates nets:List Int} (hn:A4y nets) (hr:rates.length=nets.length) (i:Nat):(I7 rates nets i).length≤1000∧(∀ x∈I7 rates nets i,0≤x)∧0≤A2 (I7 rates nets i)∧A2 (I7 rates nets i)≤10000000000000:=by
 have hsub:(I7 rates nets i).Sublist nets:=by
  have h1:(I7 rates nets i).Sublist ((List.range nets.length).map (gI nets)):=by
   unfold I7 A8c
   rw [hr]
   exact D7m.map _
  rw [A5Z] at h1;exact h1
 have hp:∀ x∈I7 rates nets i,0≤x:=fun x hx=>hn.pos x (hsub.subset hx)
 have h2:=hsub.length_le
 have h3:=hn.len
 have h4:=B1U hsub hn.pos
 have h5:=hn.sum
 exact ⟨by omega,hp,C1 hp,by omega⟩
theorem A2M {t:Tax} {rates nets:List Int} (hn:A4y nets) (hr:rates.length=nets.length) {i:Nat} (hq:0≤gI rates i∧gI rates i≤10000):Q6 (N5 t (A2 (I7 rates nets i)) (gI rates i)) (I7 rates nets i):=by
 obtain ⟨h1,h2,h3,h4⟩:=A5O hn hr i
 have hm:=A2N (t:=t) h3 hq
 exact ⟨hm.1,by omega,by omega,h2,by omega,fun e=>by rw [e] at hm;rw [e];omega⟩
theorem C0V {n i:Nat} (hi:i<n):List.range n=List.range i++(i::(List.range (n - i - 1)).map (fun k=>i+1+k)):=by
 have h1:n=i+(1+(n - i - 1)):=by omega
 conv=>lhs;rw [h1]
 rw [List.range_add,show 1+(n - i - 1)=(n - i - 1)+1 by omega,List.range_succ_eq_map]
 simp only [D6q,D7L,D7F]
 congr 2
 refine D6D fun k _=>?_
 show i+(k+1)=i+1+k
 omega
theorem A8d {rates:List Int} {i:Nat} (hi:i<rates.length):(A8c rates i)[A0s rates i]?=some i:=by
 unfold A0s A8c
 rw [C0V hi,D7h,D5H (D5u _),Nat.sub_self,D6s (by simp)];rfl
theorem B0Z {rates:List Int} {i:Nat} (hi:i<rates.length):A0s rates i<(A8c rates i).length:=by
 exact (D5D.1 (A8d hi)).1
theorem B5E {t:Tax} {rates nets:List Int} (hn:A4y nets) (hr:rates.length=nets.length) (hq:∀ x∈rates,0≤x∧x≤10000) {i:Nat} (hi:i<nets.length):0≤A1z t rates nets i∧A1z t rates nets i≤10000000000000:=by
 have hqi:=hq (gI rates i) (A7 (by omega))
 have hw:=A2M (t:=t) hn hr hqi
 obtain ⟨h1,h2,h3,h4⟩:=A5O hn hr i
 have hm:=A2N (t:=t) h3 hqi
 have hp:=B0Z (rates:=rates) (i:=i) (by omega)
 have hml:(I7 rates nets i).length=(A8c rates i).length:=D5p ..
 obtain ⟨l1,l2,l3⟩:=R9 hw
 have hle:=A3g hw hm.2 (k:=A0s rates i) (by omega)
 have hg:gI (D1 (N5 t (A2 (I7 rates nets i)) (gI rates i)) (I7 rates nets i)) (A0s rates i)∈D1 (N5 t (A2 (I7 rates nets i)) (gI rates i)) (I7 rates nets i):=A7 (by omega)
 have h0:=l3 _ hg
 have hmem:gI (I7 rates nets i) (A0s rates i)∈I7 rates nets i:=A7 (by omega)
 have h6:=J0 h2 hmem
 unfold A1z
 omega
theorem A6i {t:Tax} {rates nets:List Int} (hn:A4y nets) (hr:rates.length=nets.length) (hq:∀ x∈rates,0≤x∧x≤10000):(K5 t rates nets).length=nets.length∧∀ x∈K5 t rates nets,0≤x∧x≤10000000000000:=by
 unfold K5
 split
 ·refine ⟨by unfold G7;rw [D5p,D5O],fun x hx=>?_⟩
  obtain ⟨i,hi,rfl⟩:=D5G.1 hx
  exact B5E hn hr hq (D5B.1 hi)
 ·refine ⟨by unfold W0;rw [D5p,D5O],fun x hx=>?_⟩
  obtain ⟨i,hi,rfl⟩:=D5G.1 hx
  have hi:=D5B.1 hi
  have h1:=hn.pos _ (show gI nets i∈nets from A7 hi)
  have h2:=A2N (t:=t) h1 (hq (gI rates i) (A7 (by omega)))
  have h3:=J0 hn.pos (show gI nets i∈nets from A7 hi)
  have h4:=hn.sum
  omega
theorem B5D {t:Tax} {rates nets:List Int} (hn:A4y nets) (hr:rates.length=nets.length) (hq:∀ x∈rates,0≤x∧x≤10000) {i:Nat} (hi:i<nets.length):A1z t rates nets i≤gI nets i:=by
 have hqi:=hq (gI rates i) (A7 (by omega))
 have hw:=A2M (t:=t) hn hr hqi
 obtain ⟨h1,h2,h3,h4⟩:=A5O hn hr i
 have hm:=A2N (t:=t) h3 hqi
 have hp:=B0Z (rates:=rates) (i:=i) (by omega)
 have hml:(I7 rates nets i).length=(A8c rates i).length:=D5p ..
 have hle:=A3g hw hm.2 (k:=A0s rates i) (by omega)
 have e:gI (I7 rates nets i) (A0s rates i)=gI nets i:=by
  unfold I7 gI
  rw [D5l,D6j,A8d (by omega)];rfl
 rw [e] at hle
 exact hle
theorem B6A {t:Tax} {rates nets:List Int} (hn:A4y nets) (hr:rates.length=nets.length) (hq:∀ x∈rates,0≤x∧x≤10000) {i:Nat} (hi:i<nets.length):gI (K5 t rates nets) i≤gI nets i:=by
 unfold K5
 split
 ·have e:gI (G7 t rates nets) i=A1z t rates nets i:=by unfold G7 gI;rw [D5l,D6j,D6P hi];rfl
  rw [e];exact B5D hn hr hq hi
 ·have e:gI (W0 t rates nets) i=N5 t (gI nets i) (gI rates i):=by unfold W0 gI;rw [D5l,D6j,D6P hi];rfl
  rw [e]
  exact (A2N (hn.pos _ (show gI nets i∈nets from A7 hi)) (hq (gI rates i) (A7 (by omega)))).2
theorem A6g (f g:Nat→Int):∀ n,(∀ i,i<n→f i≤g i)→A2 ((List.range n).map f)≤A2 ((List.range n).map g)
 | 0,_=>D5W _
 | n+1,h=>by
  rw [L3,L3]
  have h1:=A6g f g n fun i hi=>h i (by omega)
  have h2:=h n (by omega)
  omega
structure B6M where
 goods:List Int
 taxes:List Int
 ship:Int
 shipTax:Int
def A2s (t:Tax) (taxes nets:List Int):List Int:=(List.range nets.length).map fun i=>if t.incl=true then gI nets i - gI taxes i else gI nets i
def L1 (t:Tax) (z:K2) (exempt:Bool) (cats:List C8) (nets:List Int) (ship:Int):B6M :=
 ⟨A2s t (K5 t (cats.map (E9 z)) nets) nets,if exempt=true then List.replicate nets.length 0 else K5 t (cats.map (E9 z)) nets,
 if t.incl=true then ship - N5 t ship z.ship else ship,if exempt=true then 0 else N5 t ship z.ship⟩
structure A1I where
 goods:List Int
 taxes:List Int
 ship:Int
 shipTax:Int
 total:Int
 deals:List A1G
end Go.Proofs.YtaapofnkmpiknaaGreat
namespace Go.Proofs.YtaapofnkmpiknaaGreat
open Go Go.Ab
attribute [local irreducible] upd del
def A5K (l:List Int) (out:List Int) (i:Nat):List Int:=if (out.any fun y=>y==1+B9 (gI l i) 5)=true then out else out++[1+B9 (gI l i) 5]
def Q3 (l:List Int) (n:Nat):List Int:=(List.range n).foldl (A5K l) []
theorem A5L (l:List Int) (n:Nat):Q3 l (n+1)=A5K l (Q3 l n) n:=by unfold Q3;rw [D6L,D7n];rfl
theorem B0U (l:List Int) (n:Nat):(Q3 l n).length≤n:=by
 induction n with
 | zero=>exact D5u _
 | succ n ih =>
  rw [A5L];unfold A5K
  split
  ·omega
  ·rw [D5x];show _+1≤_;omega
def N9 (l:List Int):List Int:=Q3 l (min l.length 6)
theorem B2n (l:List Int) (k:Int) (j:Nat) (hj:j<l.length):((l.take (j+1)).any fun y=>y==k)=((l.take j).any (fun y=>y==k)||(gI l j==k)):=by
 rw [K1 hj,List.any_append];simp
theorem A9D (l:List Int) (st:St):S P 103 [B0 l] st fun v st'=>v=B0 (N9 l)∧st'=st:=by
 refine A0A (ty:=3) ?_
 refine F1 [] Tryz.func103 ?_
 refine lp (min l.length 6) [0,3,4] (fun i vs s=>∃ sv,vs=[B0 l,sv,eI i]∧E0 3 1 eI (Q3 l i) st sv s) ?_ ?_
 ·conv=>whnf
  exact ⟨.emp,rfl,E0.start _ _ _ _⟩
 ·rintro i vs s hi ⟨sv,rfl,hc⟩
  have hlen:=B0U l i
  have hfin:i=min l.length 6→E0 3 1 eI (N9 l) st sv s:=fun e=>by unfold N9;rw [←e];exact hc
  conv=>whnf
  refine B8 (fun h1=>?_) (fun h1=>?_)<;>rw [h1]<;>simp only [D5n,D5m] at h1
  ·conv=>whnf
   refine B8 (fun h2=>?_) (fun h2=>?_)<;>rw [h2]<;>simp only [D5n,D5m] at h2
   ·have hi':i<min l.length 6:=by omega
    have hK:=A5L l i
    unfold A5K at hK
    have hm:=D0 (gI l (i:Int).toNat) (n:=5) (by decide)
    have hw:IntKind.i64.wrap (1+B9 (gI l (i:Int).toNat) 5)=1+B9 (gI l i) 5:=A5 (by omega) (by omega)
    conv=>whnf
    refine E4 ?_
    refine H8 (A0x _ 5 (by decide) (by decide) _) ?_
    rw [hw]
    generalize hkk:1+B9 (gI l i) 5=k at hK
    have hcases:(sv=.emp∧Q3 l i=[])∨∃ b g,sv=.own 1 b 0 (Q3 l i).length∧s b=some ⟨3,1,(Q3 l i).length,g⟩∧∀ j,j<(Q3 l i).length→g j=eI (gI (Q3 l i) j):=by
     rcases hc with ⟨h0,h3,_⟩ | ⟨_,b,g,_,h3,h4,h5⟩
     ·exact .inl ⟨h3,D5V h0⟩
     ·exact .inr ⟨b,g,h3,by rw [h4];exact A0 ..,h5⟩
    refine lp (Q3 l i).length [0,3,4,5,6,7] (fun j vs t=>vs=[B0 l,sv,eI i,eI k,eB (((Q3 l i).take j).any fun y=>y==k),eI j]∧t=s) ?_ ?_
    ·conv=>whnf
     exact ⟨rfl,rfl⟩
    ·rintro j vs t hj ⟨rfl,rfl⟩
     rcases hcases with ⟨rfl,hnil⟩ | ⟨b,g,rfl,hb,hg⟩
     ·have hj0:j=0:=by rw [hnil] at hj;exact Nat.le_zero.1 hj
      subst hj0
      have hK2:Q3 l (i+1)=Q3 l i++[k]:=by rw [hK,if_neg (by rw [hnil];simp)]
      conv=>whnf
      refine E0.app (q:=r3) rfl rfl rfl rfl rfl (by rfl) (by show ((Q3 l i).length+1) * 8≤140737488355328;omega) hc (fun sv' t' hc'=>?_);conv=>whnf
      refine F8 ?_
      exact nx hi' ⟨sv',by rw [B3 (by omega)],by rw [hK2];exact hc'⟩
     ·conv=>whnf
      cases h3:decide ((j:Int)<((Q3 l i).length:Int))
      ·obtain rfl:=C5 h3 hj
       conv=>whnf
       rw [D5w]
       cases h4:(Q3 l i).any fun y=>y==k
       ·rw [if_neg (by rw [h4];simp)] at hK;conv=>whnf
        refine E0.app (q:=r3) rfl rfl rfl rfl rfl (by rfl) (by show ((Q3 l i).length+1) * 8≤140737488355328;omega) hc (fun sv' t' hc'=>?_);conv=>whnf
        refine F8 ?_
        exact nx hi' ⟨sv',by rw [B3 (by omega)],by rw [hK];exact hc'⟩
       ·rw [if_pos h4] at hK;conv=>whnf
        refine F8 ?_
        exact nx hi' ⟨_,by rw [B3 (by omega)],by rw [hK];exact hc⟩
      ·have hj':=D9 h3
       have hsucc:=B2n (Q3 l i) k j hj'
       conv=>whnf
       cases h4:((Q3 l i).take j).any fun y=>y==k
       ·rw [h4,D5Z] at hsucc;conv=>whnf
        refine E4 ?_
        refine ldV hb rfl (by omega) (v:=eI (gI (Q3 l i) (j:Int).toNat)) (by rw [D5A];exact hg _ (by omega)) ?_;conv=>whnf
        refine F8 ?_
        refine nx hj' ⟨?_,rfl⟩
        rw [B3 (by omega),hsucc];rfl
       ·rw [h4,D6f] at hsucc;conv=>whnf
        refine F8 ?_
        refine nx hj' ⟨?_,rfl⟩
        rw [B3 (by omega),hsucc]
   ·conv=>whnf
    exact hfin (by omega)
  ·conv=>whnf
   exact hfin (by omega)
def B1r (x:A0L) (least:Int):A0L:=⟨least,B9 x.rate 4000,1+B9 x.amount 300⟩
def Q0 (l:List A0L) (step:Int):Nat→List A0L×Int
 | 0=>([],0)
 | i+1=>((Q0 l step i).1++[B1r (l.getD i default) ((Q0 l step i).2+B9 (l.getD i default).least step)],(Q0 l step i).2+B9 (l.getD i default).least step+1)
theorem A7B (l:List A0L) (step:Int) (i:Nat):(Q0 l step i).1.length=i:=by
 induction i with
 | zero=>rfl
 | succ i ih=>show (_++[_]).length=_;rw [D5x,ih];rfl
theorem A8x (l:List A0L) {step:Int} (h:0<step) (i:Nat):0≤(Q0 l step i).2∧(Q0 l step i).2≤i * step:=by
 induction i with
 | zero=>exact ⟨D5W _,by show (0:Int)≤((0:Nat):Int) * step;rw [Int.natCast_zero,D8l];omega⟩
 | succ i ih =>
  have hm:=D0 (l.getD i default).least h
  show 0≤(Q0 l step i).2+B9 (l.getD i default).least step+1∧(Q0 l step i).2+B9 (l.getD i default).least step+1≤_
  rw [show ((i+1:Nat):Int) * step=i * step+step by rw [Int.natCast_add,D7Q];simp]
  omega
def P5 (l:List A0L) (step:Int):List A0L:=if l.length=0 then [⟨Int.tdiv step 2,1000,0⟩] else (Q0 l step (min l.length 3)).1
theorem A9E (l:List A0L) (step:Int) (h0:0<step) (h1:step≤5000) (st:St):S P 209 [A6 3 R1 l,eI step] st fun v st'=>v=A6 3 R1 (P5 l step)∧st'=st:=by
 refine A0A (ty:=300) ?_
 refine F1 [] Tryz.func209 ?_
 refine lp (min l.length 3) [0,1,5,6,7] (fun i vs s=>∃ sv,vs=[A6 3 R1 l,eI step,sv,eI (Q0 l step i).2,eI i]∧E0 300 3 R1 (Q0 l step i).1 st sv s) ?_ ?_
 ·conv=>whnf
  exact ⟨.emp,rfl,E0.start _ _ _ _⟩
 ·rintro i vs s hi ⟨sv,rfl,hc⟩
  have hlen:=A7B l step i
  have hle:=A8x l h0 i
  have hip:(i:Int) * step≤3 * 5000:=D7J (by omega) h1 (by omega) (by omega)
  have hsv:(i=0∧sv=.emp)∨(0<i∧∃ b,sv=.own 3 b 0 i):=by
   rcases hc with ⟨h2,h3,_⟩ | ⟨h2,b,_,_,h3,_⟩
   ·exact .inl ⟨by omega,h3⟩
   ·exact .inr ⟨by omega,b,by rw [h3,hlen]⟩
  have hw2:IntKind.i64.wrap (Int.tdiv step 2)=Int.tdiv step 2:=by
   rw [D6G (by omega)]
   exact A5 (by omega) (by omega)
  conv=>whnf
  refine B8 (fun h2=>?_) (fun h2=>?_)<;>rw [h2]<;>simp only [D5n,D5m] at h2
  case' refine_1 =>
   conv=>whnf
   refine B8 (fun h3=>?_) (fun h3=>?_)<;>rw [h3]<;>simp only [D5n,D5m] at h3
  case refine_1.refine_1 =>
   have hi':i<min l.length 3:=by omega
   have hm:=D0 (l.getD (i:Int).toNat default).least h0
   have hm2:=D0 (l.getD (i:Int).toNat default).amount (n:=300) (by decide)
   have e1:IntKind.i64.wrap ((Q0 l step i).2+B9 (l.getD (i:Int).toNat default).least step)=(Q0 l step i).2+B9 (l.getD (i:Int).toNat default).least step:=A5 (by omega) (by omega)
   have e2:IntKind.i64.wrap (1+B9 (l.getD (i:Int).toNat default).amount 300)=1+B9 (l.getD (i:Int).toNat default).amount 300:=A5 (by omega) (by omega)
   have e3:IntKind.i64.wrap ((Q0 l step i).2+B9 (l.getD (i:Int).toNat default).least step+1)=(Q0 l step i).2+B9 (l.getD (i:Int).toNat default).least step+1:=A5 (by omega) (by omega)
   conv=>whnf
   refine E4 ?_
   refine H8 (O9 _ step h0 (by omega) _) ?_
   rw [e1]
   refine ⟨[16,17],[],List.range 19,by kernel_rfl,?_⟩;conv=>whnf
   refine E4 ?_
   refine cqW (O9 _ 4000 (by decide) (by decide) _) ?_
   refine E4 ?_
   refine cqW (O9 _ 300 (by decide) (by decide) _) ?_
   rw [e2]
   refine E0.app (y:=B1r (l.getD (i:Int).toNat default) ((Q0 l step i).2+B9 (l.getD (i:Int).toNat default).least step)) (q:=C5V) rfl rfl rfl rfl rfl (by rfl) (by show ((Q0 l step i).1.length+1) * 24≤140737488355328;omega) hc (fun sv' t' hc'=>?_);conv=>whnf
   rw [e3]
   refine F8 ?_
   exact nx hi' ⟨sv',by rw [B3 (by omega)];rfl,hc'⟩
  all_goals
   have hie:i=min l.length 3:=by omega
   conv=>whnf
   rcases hsv with ⟨rfl,rfl⟩ | ⟨hp,b,rfl⟩
   ·have hl0:l.length=0:=by omega
    have hT:P5 l step=[⟨Int.tdiv step 2,1000,0⟩]:=by unfold P5;rw [if_pos hl0]
    rw [hT];conv=>whnf
    refine E0.app (y:=⟨Int.tdiv step 2,1000,0⟩) (q:=C5V) rfl rfl rfl rfl rfl (by show AV.agg [eI (IntKind.i64.wrap (Int.tdiv step 2)),eI 1000,eI 0]=_;rw [hw2];rfl) (by show (0+1) * 24≤140737488355328;omega) hc (fun sv' t' hc'=>?_);conv=>whnf
    exact hc'
   ·have hT:P5 l step=(Q0 l step i).1:=by unfold P5;rw [if_neg (by omega),hie]
    rw [hT];conv=>whnf
    rw [show ((i:Int)==0)=false by rw [D5X];omega];conv=>whnf
    exact hc
theorem B6q (l:List C8) (most:Nat) (kinds:Int) (name:Int→C8) (k:Nat):∃ ks:List Nat,R6 l most kinds name k=ks.map (fun x:Nat=>name x)∧ks.Pairwise (·<·)∧(∀ x∈ks,x<k)∧ks.length≤most:=by
 induction k with
 | zero=>exact ⟨[],rfl,.nil,⟨fun x hx=>absurd hx D6R,D5L _⟩⟩
 | succ k ih =>
  obtain ⟨ks,h1,h2,h3,h4⟩:=ih
  rw [A6e];unfold A6d
  split
  ·rename_i hc
   rw [D5r,D5n,h1,D5p] at hc
   refine ⟨ks++[k],by rw [h1,D5P];rfl,List.pairwise_append.2 ⟨h2,List.pairwise_singleton _ _,fun a ha b hb=>by rw [D5Q] at hb;subst hb;exact h3 a ha⟩,fun x hx=>?_,by rw [D5x];show ks.length+1≤most;omega⟩
   rcases D6B.1 hx with h | h
   ·have:=h3 x h;omega
   ·rw [D5Q] at h;omega
  ·exact ⟨ks,h1,h2,fun x hx=>by have:=h3 x hx;omega,h4⟩
theorem A7p {l:List C8} {most:Nat} {kinds:Int} {name:Int→C8} {k:Nat} (hn:∀ x:Nat,x<k→D2 (name x)=true) (hr:∀ x y:Nat,x<y→y<k→slt (name x) (name y)=true):A0H (R6 l most kinds name k)=true∧(R6 l most kinds name k).length≤most∧∀ s∈R6 l most kinds name k,s.size≤12:=by
 obtain ⟨ks,h1,h2,h3,h4⟩:=B6q l most kinds name k
 rw [h1]
 have hall:∀ s∈ks.map (fun x:Nat=>name x),D2 s=true:=fun s hs=>by
  obtain ⟨x,hx,rfl⟩:=D5G.1 hs;exact hn x (h3 x hx)
 refine ⟨?_,by rw [D5p];exact h4,fun s hs=>?_⟩
 ·unfold A0H
  rw [D5r,D5F,D6r]
  refine ⟨?_,fun s hs=>by rw [hall s hs];simp⟩
  unfold A0f
  rw [D5I]
  intro j hj
  have hj:=D5B.1 hj
  rw [D5p] at hj
  unfold O5
  rw [D6t,D6k]
  by_cases e:j=0
  ·exact .inl e
  ·refine .inr ?_
   have g:∀ i,i<ks.length→(ks.map (fun x:Nat=>name x)).getD i default=name (ks.getD i 0:Nat):=fun i hi=>by
    rw [D5l,D6j,D5s hi,D5l,D5s hi];rfl
   rw [g _ (by omega),g _ hj]
   have gm:∀ i,i<ks.length→ks.getD i 0=ks[i]!:=fun i hi=>by rw [D5l,D5s hi,getElem!_pos ks i hi];rfl
   refine hr _ _ ?_ (h3 _ ?_)
   ·rw [gm _ (by omega),gm _ hj,getElem!_pos ks _ (by omega),getElem!_pos ks _ hj]
    exact D6V.1 h2 _ _ (by omega) hj (by omega)
   ·rw [gm _ hj,getElem!_pos ks _ hj];exact D6J _
 ·have:=hall s hs
  unfold D2 at this
  simp only [D5r,D5n] at this
  exact this.1.2
theorem C1i:((List.range 8).all fun x=>D2 (A1e (x:Nat)))=true:=by kernel_rfl
theorem C3V:((List.range 8).all fun y=>(List.range y).all fun x=>slt (A1e (x:Nat)) (A1e (y:Nat)))=true:=by kernel_rfl
theorem B9S:((List.range 3).all fun x=>D2 (A5o (x:Nat)))=true:=by kernel_rfl
theorem C2q:((List.range 3).all fun y=>(List.range y).all fun x=>slt (A5o (x:Nat)) (A5o (y:Nat)))=true:=by kernel_rfl
theorem B6W:((List.range 3).all fun x=>D2 (A5e (x:Nat)))=true:=by kernel_rfl
theorem B9Y:((List.range 3).all fun y=>(List.range y).all fun x=>slt (A5e (x:Nat)) (A5e (y:Nat)))=true:=by kernel_rfl
theorem B4p {name:Int→C8} {k:Nat} (h:((List.range k).all fun y=>(List.range y).all fun x=>slt (name (x:Nat)) (name (y:Nat)))=true) (x y:Nat) (hxy:x<y) (hy:y<k):slt (name x) (name y)=true :=
 D5I.1 (D5I.1 h y (D5B.2 hy)) x (D5B.2 hxy)
theorem B3Y {name:Int→C8} {k:Nat} (h:((List.range k).all fun x=>D2 (name (x:Nat)))=true) (x:Nat) (hx:x<k):D2 (name x)=true:=D5I.1 h x (D5B.2 hx)
theorem A2O (s:U7):A0g (P9 s)=true∧A1U (P9 s):=by
 obtain ⟨a1,a2,a3⟩:=A7p (l:=s.skus) (most:=3) (kinds:=8) (name:=A1e) (k:=8) (B3Y C1i) (B4p C3V)
 obtain ⟨b1,b2,b3⟩:=A7p (l:=s.cats) (most:=2) (kinds:=3) (name:=A5o) (k:=3) (B3Y B9S) (B4p C2q)
 unfold P9
 generalize R6 s.skus 3 8 A1e 8=A at a1 a2 a3 ⊢
 generalize R6 s.cats 2 3 A5o 3=B at b1 b2 b3 ⊢
 refine ⟨?_,?_⟩
 ·unfold A0g
  rw [a1,b1,D5U (show A.length≤20 by omega),D5U (show B.length≤20 by omega)];rfl
 ·exact ⟨by show A.length≤_;omega,by show B.length≤_;omega,fun x hx=>by have:=a3 x hx;show x.size≤_;omega,fun x hx=>by have:=b3 x hx;show x.size≤_;omega⟩
theorem B4g (l:List C8):S4 (J9 l)=true∧(J9 l).length≤3∧∀ s∈J9 l,s.size≤12:=by
 obtain ⟨a1,a2,a3⟩:=A7p (l:=l) (most:=3) (kinds:=3) (name:=A5e) (k:=3) (B3Y B6W) (B4p B9Y)
 unfold J9
 generalize R6 l 3 3 A5e 3=A at a1 a2 a3 ⊢
 refine ⟨?_,a2,a3⟩
 unfold A0H at a1
 rw [D5r] at a1
 unfold S4
 rw [a1.1,a1.2,D5U (by omega)];rfl
theorem C8Q (n:Int):B9 n 8=0∨B9 n 8=1∨B9 n 8=2∨B9 n 8=3∨B9 n 8=4∨B9 n 8=5∨B9 n 8=6∨B9 n 8=7:=by
 have:=D0 n (n:=8) (by decide);omega
theorem C3T (k:Nat) (h:k<8):A1e k=Y3 (97+k):=by
 unfold A1e B9;congr 2;omega
theorem B3n (l:List Ab.Item):(F9 l).map Ab.Item.sku=[Y3 97,Y3 98,Y3 99,Y3 100,Y3 101,Y3 102,Y3 103,Y3 104]:=by
 unfold F9
 rw [D7L]
 have e:∀ k,k<8→(Ab.Item.sku ∘ N8 l) k=Y3 (97+(k:Int)):=fun k hk=>by
  rw [←C3T k hk]
  show (N8 l k).sku=_
  unfold N8;split<;>rfl
 have:(List.range 8).map (Ab.Item.sku ∘ N8 l)=(List.range 8).map fun k:Nat=>Y3 (97+(k:Int)):=D6D fun k hk=>e k (D5B.1 hk)
 rw [this];rfl
theorem A1X (l:List Ab.Item):(F9 l).length=8:=by unfold F9;rw [D5p,D5O]
theorem C0p (items:List Ab.Item) (s:C8):known items s=(items.map Ab.Item.sku).any fun y=>y.toList==s.toList:=by
 unfold known O8
 rw [A1r,List.any_map];rfl
theorem A7m (l:List Ab.Item) (n:Int):known (F9 l) (A1e n)=true:=by
 rw [C0p,B3n]
 unfold A1e
 rcases C8Q n with h | h | h | h | h | h | h | h<;>rw [h]<;>kernel_rfl
theorem B5N (x:E8):(0≤(A5W x).qty∧(A5W x).qty≤9)∧0≤(A5W x).price∧(A5W x).price<4000:=by
 have h1:=D0 x.qty (n:=10) (by decide)
 have h2:=D0 x.price (n:=4000) (by decide)
 exact ⟨⟨h1.1,by show B9 x.qty 10≤9;omega⟩,h2.1,h2.2⟩
structure A1Z (l:List E8):Prop where
 len:l.length≤8
 line:∀ x∈l,(0≤x.qty∧x.qty≤9)∧0≤x.price∧x.price<4000
 sku:∀ x∈l,∃ n,x.sku=A1e n
theorem B4h (l:List E8):A1Z (A6C l):=by
 unfold A6C
 refine ⟨by rw [D5p,D5v];omega,fun x hx=>?_,fun x hx=>?_⟩
 ·obtain ⟨y,_,rfl⟩:=D5G.1 hx;exact B5N y
 ·obtain ⟨y,_,rfl⟩:=D5G.1 hx;exact ⟨A2C y.sku,rfl⟩
theorem A1Z.lineC {l:List E8} (h:A1Z l) {x:E8} (hx:x∈l):lineC x=true:=by
 have:=h.line x hx
 rw [A0r];omega
theorem B9y {l:List E8} (h1:∀ x∈l,(0≤x.qty∧x.qty≤9)∧0≤x.price∧x.price<4000):(0≤L5 l∧L5 l≤9 * l.length)∧0≤J5 l∧J5 l≤36000 * l.length:=by
 have:∀ (l:List E8) (a b:Int),(∀ x∈l,(0≤x.qty∧x.qty≤9)∧0≤x.price∧x.price<4000)→(a≤l.foldl (fun s x=>s+x.qty) a∧l.foldl (fun s x=>s+x.qty) a≤a+9 * l.length)∧b≤l.foldl (fun s x=>s+x.qty * x.price) b∧l.foldl (fun s x=>s+x.qty * x.price) b≤b+36000 * l.length:=by
  intro l
  induction l with
  | nil=>intro a b _;simp
  | cons y l ih =>
   intro a b h
   have hy:=h y (D5N ..)
   have h0:0≤y.qty * y.price:=D6K hy.1.1 hy.2.1
   have h9:y.qty * y.price≤9 * 4000:=D7J hy.1.2 (by omega) hy.2.1 (by omega)
   have:=ih (a+y.qty) (b+y.qty * y.price) fun x hx=>h x (D5M _ hx)
   rw [D6C,D6C,D5Y]
   omega
 have:=this l 0 0 h1
 unfold L5 J5;omega
theorem B7i {kn:C8→Bool} {l:List E8} (h:∀ x∈l,kn x.sku=true∧lineC x=true):l.find? (J8 kn)=none:=by
 rw [D7P]
 intro x hx
 unfold J8
 rw [(h x hx).1,(h x hx).2];simp
theorem A1Z.check {l:List E8} (h:A1Z l) {kn:C8→Bool} (hk:∀ n,kn (A1e n)=true):O2 kn l=0:=by
 unfold O2
 have hl:=h.len
 have hs:=B9y h.line
 rw [if_neg (by omega),B7i fun x hx=>⟨by obtain ⟨n,hn⟩:=h.sku x hx;rw [hn];exact hk n,h.lineC hx⟩]
 show (if _ then (5:Int) else 0)=0
 rw [if_neg]
 rw [D5t (by omega),D5t (by omega)];decide
def B7n (n:Int):C8:=(⟨#[103]⟩:C8)++Y3 (48+B9 n 2)
def P7 (k:Int):C8:=(⟨#[122]⟩:C8)++Y3 (48+k)
def Y6 (x:A2b):A2b:=⟨P9 x.scope,1+B9 x.count 2⟩
def P4 (l:List A2b):List A2b:=if l.length=0 then [⟨⟨[],[]⟩,2⟩] else (l.take 3).map Y6
def A3m (p:B1):Int:=1+B9 (IntKind.i64.wrap (p.kind - 1)) 7
def A1Q (p:B1):C8:=if B9 (A2C p.group) 3=1 then B7n p.group.size else ⟨#[]⟩
def A3l (p:B1):C8:=if B9 (A2C p.code) 3=1 then A5e p.code.size else ⟨#[]⟩
def A2W (p:B1):Int:=if B9 p.least 3=1 then B9 p.least 9000 else 0
def P1 (p:B1) (id K:Int):B1 :=
 ⟨idN id,K,B9 p.prio 5,A1Q p,A3l p,if K=7 then false else p.closes,if K=4∨K=7 then ⟨[],[]⟩ else P9 p.scope,A2W p,
 if K=1∨K=3∨K=7 then 1+B9 p.rate 10000 else 0,if K=2 then 1+B9 p.amount 900 else if K=4 then B9 p.amount 3000 else 0,
 if K=3 then 1+B9 p.buy 3 else 0,if K=3 then 1+B9 p.get 2 else 0,if K=4 then P4 p.parts else [],if K=5 then P5 p.tiers 5000 else if K=6 then P5 p.tiers 5 else []⟩
def A1R (p:B1) (id:Int):B1:=P1 p id (A3m p)
def C0l (i:Nat):Int:=((i:Int) * 7+3) % 10
def X0 (l:List B1) (i:Nat):B1:=A1R (l.getD i default) (C0l i)
def N1 (l:List B1):List B1:=(List.range (min l.length 6)).map (X0 l)
def A8k (l:List G4) (c:Nat):G4:=⟨A5o c,B9 (l.getD c default).rate 3000⟩
def S3 (l:List G4):List G4:=(List.range (min 3 l.length)).map (A8k l)
def D5 (l:List K2) (k:Nat):K2 :=
 if k<l.length then ⟨P7 k,S3 (l.getD k default).rates,B9 (l.getD k default).rest 3000,B9 (l.getD k default).ship 3000⟩ else ⟨P7 k,[],1000 * k,500 * k⟩
def K8 (t:Tax):Tax:=⟨t.incl,t.byOrder,B9 t.round 3,(List.range 3).map (D5 t.zones)⟩
def B1q (s:Ab.Ship):Ab.Ship:=⟨B9 s.fee 900,B9 s.free 3 * 4000⟩
def A7s (p:A5w):A5w:=⟨20+B9 p.window 60,B9 p.grace 40,1+B9 p.mode 3,B9 p.restock 3 * B9 p.restock 2500,N9 p.order,N9 p.credit⟩
def J2 (r:G6):G6:=⟨F9 r.items,N1 r.promos,K8 r.tax,B1q r.ship,A7s r.policy⟩
theorem C8R (n:Int):B9 n 2=0∨B9 n 2=1:=by
 have:=D0 n (n:=2) (by decide);omega
theorem C6Q (n:Int):B9 n 3=0∨B9 n 3=1∨B9 n 3=2:=by
 have:=D0 n (n:=3) (by decide);omega
theorem C7G (n:Int):B9 n 10=0∨B9 n 10=1∨B9 n 10=2∨B9 n 10=3∨B9 n 10=4∨B9 n 10=5∨B9 n 10=6∨B9 n 10=7∨B9 n 10=8∨B9 n 10=9:=by
 have:=D0 n (n:=10) (by decide);omega
theorem le3 {n:Nat} (h:n≤3):n=0∨n=1∨n=2∨n=3:=by omega
theorem lt3 {n:Nat} (h:n<3):n=0∨n=1∨n=2:=by omega
theorem U5 {s:C8} (h:D2 s=true):s.size≤12:=by
 unfold D2 at h
 simp only [D5r,D5n] at h
 exact h.1.2
theorem A9l (n:Int):D2 (A1e n)=true:=by
 unfold A1e
 rcases C8Q n with h | h | h | h | h | h | h | h<;>rw [h]<;>kernel_rfl
theorem A6u (n:Int):D2 (A5o n)=true:=by
 unfold A5o
 rcases C6Q n with h | h | h<;>rw [h]<;>kernel_rfl
theorem B0H (n:Int):D2 (A5e n)=true:=by
 unfold A5e
 rcases C6Q n with h | h | h<;>rw [h]<;>kernel_rfl
theorem A9y (n:Int):D2 (B7n n)=true:=by
 unfold B7n
 rcases C8R n with h | h<;>rw [h]<;>kernel_rfl
theorem B5n (n:Int):D2 (idN n)=true:=by
 unfold idN
 rcases C7G n with h | h | h | h | h | h | h | h | h | h<;>rw [h]<;>kernel_rfl
theorem B3b:A2u ⟨#[]⟩=true:=by kernel_rfl
theorem B5y {s:C8} (h:D2 s=true):A2u s=true:=by unfold A2u;rw [h,D6c]
theorem A9z (p:B1):A2u (A1Q p)=true∧(A1Q p).size≤12:=by
 unfold A1Q;split
 ·exact ⟨B5y (A9y _),U5 (A9y _)⟩
 ·exact ⟨B3b,by decide⟩
theorem B0I (p:B1):A2u (A3l p)=true∧(A3l p).size≤12:=by
 unfold A3l;split
 ·exact ⟨B5y (B0H _),U5 (B0H _)⟩
 ·exact ⟨B3b,by decide⟩
theorem C2R (p:B1):0≤A2W p∧A2W p<9000:=by
 have:=D0 p.least (n:=9000) (by decide)
 unfold A2W;split<;>omega
theorem A5G:A0g ⟨[],[]⟩=true∧A1U ⟨[],[]⟩:=⟨by kernel_rfl,⟨by decide,by decide,fun x hx=>(by cases hx),fun x hx=>(by cases hx)⟩⟩
theorem A4T (l:List A2b):(1≤(P4 l).length∧(P4 l).length≤3)∧∀ x∈P4 l,A0P x=true∧A1U x.scope:=by
 unfold P4
 split
 ·refine ⟨⟨D5u _,by show 1≤3;decide⟩,fun x hx=>?_⟩
  rw [D5Q.1 hx]
  exact ⟨by kernel_rfl,A5G.2⟩
 ·rename_i h
  refine ⟨by rw [D5p,D5v];omega,fun x hx=>?_⟩
  obtain ⟨y,_,rfl⟩:=D5G.1 hx
  obtain ⟨h1,h2⟩:=A2O y.scope
  have:=D0 y.count (n:=2) (by decide)
  refine ⟨?_,h2⟩
  unfold A0P
  rw [show (Y6 y).scope=P9 y.scope from rfl,h1,show (Y6 y).count=1+B9 y.count 2 from rfl,D5t (by omega),D5t (by omega)];rfl
theorem B1Z (l:List A0L) (step:Int) (i k:Nat) (hk:k<i):(Q0 l step i).1.getD k default=B1r (l.getD k default) ((Q0 l step k).2+B9 (l.getD k default).least step):=by
 induction i with
 | zero=>omega
 | succ i ih =>
  have hl:=A7B l step i
  show ((Q0 l step i).1++[_]).getD k default=_
  by_cases e:k=i
  ·subst e
   rw [D5l,D5H (by omega),hl,Nat.sub_self];rfl
  ·rw [D5l,D5J (by omega),←D5l]
   exact ih (by omega)
theorem A2P (l:List A0L) (step:Int) (h:step=5000∨step=5):Z2 (P5 l step)=true∧(P5 l step).length≤3:=by
 unfold P5
 split
 ·rcases h with rfl | rfl
  ·exact ⟨by kernel_rfl,by show 1≤3;decide⟩
  ·exact ⟨by kernel_rfl,by show 1≤3;decide⟩
 ·rename_i h0
  have hs:0<step∧step≤5000:=by omega
  have hl:=A7B l step (min l.length 3)
  refine ⟨?_,by omega⟩
  unfold Z2
  rw [hl,D5t (by omega),D5t (by omega)]
  show L0 _ _=true
  refine K6 fun k hk=>?_
  rw [hl] at hk
  have hg:=B1Z l step (min l.length 3) k hk
  have hm:=D0 (l.getD k default).least hs.1
  have hr:=D0 (l.getD k default).rate (n:=4000) (by decide)
  have ha:=D0 (l.getD k default).amount (n:=300) (by decide)
  have hlo:=A8x l hs.1 k
  have hip:(k:Int) * step≤3 * 5000:=D7J (by omega) hs.2 (by omega) (by omega)
  unfold A3Q
  rw [hg]
  have hprev:(if k=0 then -1 else ((Q0 l step (min l.length 3)).1.getD (k - 1) default).least)<(Q0 l step k).2+B9 (l.getD k default).least step:=by
   by_cases e:k=0
   ·rw [if_pos e];omega
   ·rw [if_neg e,B1Z l step (min l.length 3) (k - 1) (by omega)]
    obtain ⟨j,rfl⟩:∃ j,k=j+1:=⟨k - 1,by omega⟩
    rw [Nat.add_sub_cancel]
    show (Q0 l step j).2+B9 (l.getD j default).least step<(Q0 l step j).2+B9 (l.getD j default).least step+1+B9 (l.getD (j+1) default).least step
    omega
  show (!(decide ((Q0 l step k).2+B9 (l.getD k default).least step≤_)||decide ((Q0 l step k).2+B9 (l.getD k default).least step>10000000000000)||decide (B9 (l.getD k default).rate 4000<0)||decide (B9 (l.getD k default).rate 4000>10000)||decide (1+B9 (l.getD k default).amount 300<0)||decide (1+B9 (l.getD k default).amount 300>10000000000000)||(B9 (l.getD k default).rate 4000==0&&1+B9 (l.getD k default).amount 300==0)))=true
  rw [D5t (by omega),D5t (by omega),D5t (by omega),D5t (by omega),D5t (by omega),D5t (by omega),show (1+B9 (l.getD k default).amount 300==0)=false from by rw [D5X];omega,D5R];rfl
theorem C0o (l:List Int) (n:Nat):(∀ x∈Q3 l n,1≤x∧x≤5)∧(Q3 l n).Nodup:=by
 induction n with
 | zero=>exact ⟨fun x hx=>absurd hx D6R,List.nodup_nil⟩
 | succ n ih =>
  rw [A5L];unfold A5K
  split
  ·exact ih
  ·rename_i h
   have hm:=D0 (gI l n) (n:=5) (by decide)
   have hno:1+B9 (gI l n) 5∉Q3 l n:=fun hx=>h (D6Q.2 ⟨_,hx,D7v _⟩)
   refine ⟨fun x hx=>?_,List.nodup_append.2 ⟨ih.2,List.nodup_cons.2 ⟨D6R,List.nodup_nil⟩,fun a ha b hb=>?_⟩⟩
   ·rcases D6B.1 hx with h' | h'
    ·exact ih.1 x h'
    ·rw [D5Q.1 h'];omega
   ·rw [D5Q.1 hb];intro e;exact hno (e▸ha)
theorem B5s {l:List Int} (h1:∀ x∈l,1≤x∧x≤5) (h2:l.Nodup):A1a l=true:=by
 refine K6 fun k hk=>?_
 have hx:=h1 _ (A7 hk)
 unfold A2t
 rw [show O6 1 9 (l.getD k default)=true from E6.2 (by omega)]
 have:((l.take k).any fun y=>l.getD k default==y)=false:=by
  rw [D6r]
  intro y hy
  obtain ⟨j,hj,rfl⟩:=D7k hy
  rw [D5v] at hj
  rw [D6k,D5l,D5s hk,Option.getD_some,List.getElem_take]
  intro e
  have:=(List.nodup_iff_pairwise_ne.1 h2)
  exact absurd e.symm (D6V.1 this j k (by omega) hk (by omega))
 rw [this];rfl
theorem A0w (l:List Int):A1a (N9 l)=true∧(N9 l).length≤6:=by
 have h:=C0o l (min l.length 6)
 have:=B0U l (min l.length 6)
 exact ⟨B5s h.1 h.2,by show (Q3 l _).length≤6;omega⟩
theorem A1S (q:B1) (h1:1≤q.kind∧q.kind<8) (hh:A6V q=true) (hp:A9b q=true) (hk:A6W q=true):H0 q=true:=by
 unfold H0;rw [D5U (show q.kind≥1 from h1.1),D5U h1.2,hh,hp,hk];rfl
theorem A3k (q:B1) (h1:D2 q.id=true) (h2:0≤q.prio∧q.prio≤1000) (h3:A2u q.group=true) (h4:A2u q.code=true) (h5:A0g q.scope=true) (h6:0≤q.least∧q.least≤10000000000000):A6V q=true:=by
 unfold A6V;rw [h1,E6.2 h2,h3,h4,h5,E6.2 h6];rfl
theorem A5V (p:B1):1≤A3m p∧A3m p≤7:=by
 have:=D0 (IntKind.i64.wrap (p.kind - 1)) (n:=7) (by decide)
 unfold A3m;omega
theorem A9e (p:B1) (id K:Int) (hK:1≤K∧K≤7):H0 (P1 p id K)=true:=by
 have h1:=B5n id
 have h2:=D0 p.prio (n:=5) (by decide)
 have h3:=(A9z p).1
 have h4:=(B0I p).1
 have h5:=(A2O p.scope).1
 have h6:=C2R p
 have r:=D0 p.rate (n:=10000) (by decide)
 have a9:=D0 p.amount (n:=900) (by decide)
 have a3:=D0 p.amount (n:=3000) (by decide)
 have b3:=D0 p.buy (n:=3) (by decide)
 have g2:=D0 p.get (n:=2) (by decide)
 have hpt:=A4T p.parts
 have ht5:=(A2P p.tiers 5000 (.inl rfl)).1
 have ht6:=(A2P p.tiers 5 (.inr rfl)).1
 unfold P1
 generalize idN id=I at h1 ⊢
 generalize B9 p.prio 5=pr at h2 ⊢
 generalize A1Q p=G at h3 ⊢
 generalize A3l p=C at h4 ⊢
 generalize P9 p.scope=S at h5 ⊢
 generalize A2W p=L at h6 ⊢
 generalize B9 p.rate 10000=R at r ⊢
 generalize B9 p.amount 900=A at a9 ⊢
 generalize B9 p.amount 3000=A3 at a3 ⊢
 generalize B9 p.buy 3=B at b3 ⊢
 generalize B9 p.get 2=Gt at g2 ⊢
 generalize P4 p.parts=PT at hpt ⊢
 generalize P5 p.tiers 5000=T5 at ht5 ⊢
 generalize P5 p.tiers 5=T6 at ht6 ⊢
 generalize p.closes=cl
 rcases (by omega:K=1∨K=2∨K=3∨K=4∨K=5∨K=6∨K=7) with rfl | rfl | rfl | rfl | rfl | rfl | rfl
 ·exact A1S ⟨I,1,pr,G,C,cl,S,L,1+R,0,0,0,[],[]⟩ ⟨(by decide:(1:Int)≤1),(by decide:(1:Int)<8)⟩ (A3k _ h1 ⟨h2.1,by show pr≤1000;omega⟩ h3 h4 h5 ⟨h6.1,by show L≤_;omega⟩) rfl (show O6 1 10000 (1+R)=true from E6.2 (by omega))
 ·exact A1S ⟨I,2,pr,G,C,cl,S,L,0,1+A,0,0,[],[]⟩ ⟨(by decide:(1:Int)≤2),(by decide:(2:Int)<8)⟩ (A3k _ h1 ⟨h2.1,by show pr≤1000;omega⟩ h3 h4 h5 ⟨h6.1,by show L≤_;omega⟩) rfl (show O6 1 1000000000 (1+A)=true from E6.2 (by omega))
 ·refine A1S ⟨I,3,pr,G,C,cl,S,L,1+R,0,1+B,1+Gt,[],[]⟩ ⟨(by decide:(1:Int)≤3),(by decide:(3:Int)<8)⟩ (A3k _ h1 ⟨h2.1,by show pr≤1000;omega⟩ h3 h4 h5 ⟨h6.1,by show L≤_;omega⟩) rfl ?_
  show (O6 1 10000 (1+R)&&(O6 1 100 (1+B)&&O6 1 100 (1+Gt)))=true
  rw [E6.2 (show 1≤1+R∧1+R≤10000 by omega),E6.2 (show 1≤1+B∧1+B≤100 by omega),E6.2 (show 1≤1+Gt∧1+Gt≤100 by omega)];rfl
 ·refine A1S ⟨I,4,pr,G,C,cl,⟨[],[]⟩,L,0,A3,0,0,PT,[]⟩ ⟨(by decide:(1:Int)≤4),(by decide:(4:Int)<8)⟩ (A3k _ h1 ⟨h2.1,by show pr≤1000;omega⟩ h3 h4 A5G.1 ⟨h6.1,by show L≤_;omega⟩) rfl ?_
  show (!(decide ((PT.length:Int)<1)||decide ((PT.length:Int)>3)||decide (A3<0)||decide (A3>10000000000000))&&!(PT.any fun x=>!A0P x))=true
  rw [D5t (by omega),D5t (by omega),D5t (by omega),D5t (by omega),show (PT.any fun x=>!A0P x)=false from by
   rw [D6r];intro x hx;rw [(hpt.2 x hx).1];simp];rfl
 ·exact A1S ⟨I,5,pr,G,C,cl,S,L,0,0,0,0,[],T5⟩ ⟨(by decide:(1:Int)≤5),(by decide:(5:Int)<8)⟩ (A3k _ h1 ⟨h2.1,by show pr≤1000;omega⟩ h3 h4 h5 ⟨h6.1,by show L≤_;omega⟩) rfl ht5
 ·exact A1S ⟨I,6,pr,G,C,cl,S,L,0,0,0,0,[],T6⟩ ⟨(by decide:(1:Int)≤6),(by decide:(6:Int)<8)⟩ (A3k _ h1 ⟨h2.1,by show pr≤1000;omega⟩ h3 h4 h5 ⟨h6.1,by show L≤_;omega⟩) rfl ht6
 ·exact A1S ⟨I,7,pr,G,C,false,⟨[],[]⟩,L,1+R,0,0,0,[],[]⟩ ⟨(by decide:(1:Int)≤7),(by decide:(7:Int)<8)⟩ (A3k _ h1 ⟨h2.1,by show pr≤1000;omega⟩ h3 h4 A5G.1 ⟨h6.1,by show L≤_;omega⟩) rfl (show O6 1 10000 (1+R)=true from E6.2 (by omega))
theorem A1U.fit {s:U7} (h:A1U s):A7J s:=⟨by have:=h.n1;show _≤9223372036854775807;omega,by have:=h.n2;show _≤9223372036854775807;omega⟩
theorem B1p (p:B1) (id K:Int):Q2 (P1 p id K):=by
 have hs:=(A2O p.scope).2
 have hp:=A4T p.parts
 refine ⟨?_,?_,?_⟩
 ·show A7J (if K=4∨K=7 then ⟨[],[]⟩ else P9 p.scope)
  split
  ·exact A5G.2.fit
  ·exact hs.fit
 ·show (if K=4 then P4 p.parts else []).length≤9223372036854775807
  split
  ·omega
  ·exact D5L _
 ·show ∀ x∈(if K=4 then P4 p.parts else []),_
  split
  ·exact fun x hx=>⟨(hp.2 x hx).2.fit.skus,(hp.2 x hx).2.fit.cats⟩
  ·exact fun x hx=>absurd hx D6R
theorem A1A (l:List B1):(N1 l).length=min l.length 6:=by unfold N1;rw [D5p,D5O]
theorem A5X {l:List B1} {k:Nat} (hk:k<(N1 l).length):(N1 l).getD k default=X0 l k:=by
 rw [A1A] at hk
 unfold N1
 rw [D5l,D6j,D6P hk];rfl
theorem A5Y {l:List B1} {p:B1} (h:p∈N1 l):∃ (q:B1) (id K:Int),(1≤K∧K≤7)∧p=P1 q id K:=by
 obtain ⟨k,hk,rfl⟩:=D5G.1 h
 exact ⟨_,_,_,A5V _,rfl⟩
theorem B7o:((List.range 6).all fun j=>(List.range j).all fun i=>!((idN (C0l i)).toList==(idN (C0l j)).toList))=true:=by kernel_rfl
theorem A9f (l:List B1):promosC (N1 l)=true:=by
 have hl:=A1A l
 unfold promosC
 rw [D5U (by omega),D5C]
 refine K6 fun k hk=>?_
 unfold V6
 rw [A5X hk,show H0 (X0 l k)=true from A9e _ _ _ (A5V _),D5C,D5F,D6r]
 intro x hx
 obtain ⟨j,hj,rfl⟩:=D3 hx
 rw [D5v] at hj
 rw [show ((N1 l).take k).getD j default=X0 l j by rw [D5l,D5z (by omega),←D5l,A5X (by omega)]]
 have:=D5I.1 (D5I.1 B7o k (D5B.2 (by omega))) j (D5B.2 (by omega))
 rw [D5F] at this
 show ¬((idN (C0l j)).toList==(idN (C0l k)).toList)=true
 rw [this];simp
theorem B9U (n:Nat) (h:n≤3):A0f ((List.range n).map fun c:Nat=>A5o c)=true:=by
 rcases le3 h with rfl | rfl | rfl | rfl<;>kernel_rfl
theorem A8l (l:List G4):(S3 l).length≤3∧(∀ x∈S3 l,A4m x=true∧x.cat.size≤12)∧A0f ((S3 l).map G4.cat)=true:=by
 unfold S3
 refine ⟨by rw [D5p,D5O];omega,fun x hx=>?_,?_⟩
 ·obtain ⟨c,_,rfl⟩:=D5G.1 hx
  have:=D0 (l.getD c default).rate (n:=3000) (by decide)
  refine ⟨?_,U5 (A6u _)⟩
  unfold A4m
  rw [show (A8k l c).cat=A5o c from rfl,A6u,show O6 0 10000 (A8k l c).rate=true from E6.2 ⟨this.1,by show B9 _ 3000≤_;omega⟩];rfl
 ·rw [D7L]
  exact B9U _ (by omega)
theorem A7D:((List.range 3).all fun k:Nat=>D2 (P7 k))=true:=by kernel_rfl
theorem B5R (l:List K2) (k:Nat) (hk:k<3):X3 (D5 l k)=true:=by
 have hn:=D5I.1 A7D k (D5B.2 hk)
 have hz:=U5 hn
 unfold D5
 split
 ·obtain ⟨h1,h2,h3⟩:=A8l (l.getD k default).rates
  have m1:=D0 (l.getD k default).rest (n:=3000) (by decide)
  have m2:=D0 (l.getD k default).ship (n:=3000) (by decide)
  generalize S3 (l.getD k default).rates=R at h1 h2 h3 ⊢
  unfold X3
  show (!(!D2 (P7 k)||!O6 0 10000 (B9 _ 3000)||!O6 0 10000 (B9 _ 3000)||decide ((R.length:Int)>40))&&(L0 R (fun _ x=>A4m x)&&A0f (R.map G4.cat)))=true
  rw [hn,E6.2 (show 0≤B9 (l.getD k default).rest 3000∧_≤10000 by omega),E6.2 (show 0≤B9 (l.getD k default).ship 3000∧_≤10000 by omega),D5t (by omega),h3,show L0 R (fun _ x=>A4m x)=true from K6 fun j hj=>(h2 _ (A7 hj)).1];rfl
 ·rcases lt3 hk with rfl | rfl | rfl
  ·exact (by kernel_rfl:X3 ⟨P7 (0:Nat),[],1000 * ((0:Nat):Int),500 * ((0:Nat):Int)⟩=true)
  ·exact (by kernel_rfl:X3 ⟨P7 (1:Nat),[],1000 * ((1:Nat):Int),500 * ((1:Nat):Int)⟩=true)
  ·exact (by kernel_rfl:X3 ⟨P7 (2:Nat),[],1000 * ((2:Nat):Int),500 * ((2:Nat):Int)⟩=true)
theorem C1J (l:List K2):(((List.range 3).map (D5 l)).map K2.name)=[P7 0,P7 1,P7 2]:=by
 have e:∀ k,(D5 l k).name=P7 k:=fun k=>by unfold D5;split<;>rfl
 show [(D5 l 0).name,(D5 l 1).name,(D5 l 2).name]=_
 rw [e,e,e];rfl
theorem B7K (t:Tax):taxC (K8 t)=true:=by
 have hr:=D0 t.round (n:=3) (by decide)
 have hz:∀ z∈(K8 t).zones,X3 z=true:=fun z hz=>by
  obtain ⟨k,hk,rfl⟩:=D5G.1 hz
  exact B5R _ k (D5B.1 hk)
 have hn:(K8 t).zones.length=3:=by show ((List.range 3).map _).length=3;rw [D5p,D5O]
 unfold taxC
 rw [show (K8 t).round=B9 t.round 3 from rfl,hn,D5t (show ¬ B9 t.round 3<0 by omega),D5t (show ¬ B9 t.round 3>2 by omega),show (K8 t).zones.map K2.name=[P7 0,P7 1,P7 2] from C1J _,
  show A0f [P7 0,P7 1,P7 2]=true by kernel_rfl,show L0 (K8 t).zones (fun _ z=>X3 z)=true from K6 fun j hj=>hz _ (A7 hj)];rfl
theorem B5L (l:List Ab.Item) (k:Nat):A4f (N8 l k)=true∧(N8 l k).sku.size≤12∧(N8 l k).cat.size≤12∨8≤k:=by
 by_cases h8:8≤k
 ·exact .inr h8
 refine .inl ?_
 have e:∀ (c:C8) (pr:Int) (f:Bool),D2 c=true→0≤pr∧pr≤1000000000→A4f ⟨A1e k,c,pr,f⟩=true∧(A1e k).size≤12∧c.size≤12:=fun c pr f hc hp=>by
  refine ⟨?_,U5 (A9l _),U5 hc⟩
  unfold A4f
  rw [show D2 (Ab.Item.mk (A1e k) c pr f).sku=true from A9l _,show D2 (Ab.Item.mk (A1e k) c pr f).cat=true from hc,D5t (show ¬(Ab.Item.mk (A1e k) c pr f).price<0 from by show ¬ pr<0;omega),D5t (show ¬(Ab.Item.mk (A1e k) c pr f).price>1000000000 from by show ¬ pr>_;omega)];rfl
 have hm:=D0 (l.getD k default).price (n:=4000) (by decide)
 unfold N8
 split
 ·exact e _ _ _ (A6u _) (by omega)
 ·exact e _ _ _ (A6u _) (by omega)
theorem A6Y {l:List Ab.Item} {x:Ab.Item} (h:x∈F9 l):A4f x=true∧x.sku.size≤12∧x.cat.size≤12:=by
 obtain ⟨k,hk,rfl⟩:=D5G.1 h
 have:=D5B.1 hk
 rcases B5L l k with h | h
 ·exact h
 ·omega
theorem A9W (l:List Ab.Item):A1t (F9 l)=true:=by
 unfold A1t
 rw [A1X,B3n,show A0f [Y3 97,Y3 98,Y3 99,Y3 100,Y3 101,Y3 102,Y3 103,Y3 104]=true by kernel_rfl,show L0 (F9 l) (fun _ x=>A4f x)=true from K6 fun j hj=>(A6Y (A7 hj)).1];rfl
theorem A9X (r:G6):U6 (J2 r)=true:=by
 have h1:=D0 r.ship.fee (n:=900) (by decide)
 have h2:=D0 r.ship.free (n:=3) (by decide)
 have h3:=D0 r.policy.window (n:=60) (by decide)
 have h4:=D0 r.policy.grace (n:=40) (by decide)
 have h5:=D0 r.policy.mode (n:=3) (by decide)
 have h6:=D0 r.policy.restock (n:=3) (by decide)
 have h7:=D0 r.policy.restock (n:=2500) (by decide)
 have h8:B9 r.policy.restock 3 * B9 r.policy.restock 2500≤2 * 2499:=D7J (by omega) (by omega) (by omega) (by omega)
 have h9:0≤B9 r.policy.restock 3 * B9 r.policy.restock 2500:=D6K h6.1 h7.1
 show (A1t (F9 r.items)&&promosC (N1 r.promos)&&taxC (K8 r.tax)&&A9G (B1q r.ship)&&A6D (A7s r.policy))=true
 rw [A9W,A9f,B7K r.tax]
 have e1:A9G (B1q r.ship)=true:=by
  show (O6 0 1000000000 (B9 r.ship.fee 900)&&O6 0 10000000000000 (B9 r.ship.free 3 * 4000))=true
  rw [E6.2 (by omega),E6.2 (by omega)];rfl
 have e2:A6D (A7s r.policy)=true:=by
  show (O6 0 100000 (20+B9 r.policy.window 60)&&O6 0 100000 (B9 r.policy.grace 40)&&decide (1+B9 r.policy.mode 3≥1)&&decide (1+B9 r.policy.mode 3≤3)&&O6 0 10000 (B9 r.policy.restock 3 * B9 r.policy.restock 2500)&&A1a (N9 r.policy.order)&&A1a (N9 r.policy.credit))=true
  rw [E6.2 (by omega),E6.2 (by omega),D5U (by omega),D5U (by omega),E6.2 (by omega),(A0w _).1,(A0w _).1];rfl
 rw [e1,e2];rfl
theorem B2s (r:G6):A0J (J2 r):=by
 have h1:=A1A r.promos
 have h2:=(A0w r.policy.order).2
 have h3:=(A0w r.policy.credit).2
 refine ⟨by show (N1 r.promos).length≤9223372036854775807;omega,fun p hp=>?_,by show (N9 r.policy.order).length<_;omega,by show (N9 r.policy.credit).length<_;omega⟩
 obtain ⟨q,id,K,_,rfl⟩:=A5Y hp
 exact B1p q id K
end Go.Proofs.YtaapofnkmpiknaaGreat
namespace Go.Proofs.YtaapofnkmpiknaaGreat
open Go Go.Ab
structure A5k where
 goods:Int
 tax:Int
 ship:Int
 shipTax:Int
 fee:Int
def A5E (b:A5k):AV:=.agg [eI b.goods,eI b.tax,eI b.ship,eI b.shipTax,eI b.fee]
def A0E (q:A1I):AV:=.agg [B0 q.goods,B0 q.taxes,eI q.ship,eI q.shipTax,eI q.total,A6 2 B8R q.deals]
def M9 (r:G6) (l:List E8):List C8:=(C2 r.items l).map Ab.Item.cat
def B4m (v:B6M) (deals:List A1G):A1I:=⟨v.goods,v.taxes,v.ship,v.shipTax,A2 v.goods+A2 v.taxes+v.ship+v.shipTax,deals⟩
def A9j (r:G6) (z:K2) (exempt:Bool) (l:List E8) (Pr:A3G):A1I:=B4m (L1 r.tax z exempt (M9 r l) Pr.nets Pr.ship) Pr.deals
def A2z (q:A1I):A5k:=⟨A2 q.goods,A2 q.taxes,q.ship,q.shipTax,0⟩
theorem B8l {l:List Int} {B:Int} (hB:0≤B) (h:∀ x∈l,-B≤x∧x≤B) : -(l.length * B)≤A2 l∧A2 l≤l.length * B:=by
 induction l with
 | nil=>exact ⟨by show -(((0:Nat):Int) * B)≤0;rw [Int.natCast_zero,D8l];omega,by show (0:Int)≤((0:Nat):Int) * B;rw [Int.natCast_zero,D8l];omega⟩
 | cons x l ih =>
  have h1:=ih fun y hy=>h y (D5M _ hy)
  have h2:=h x (D5N ..)
  rw [J3,D5Y,show ((l.length+1:Nat):Int) * B=l.length * B+B by rw [Int.natCast_add,D7Q];simp]
  omega
structure L7 (l:List Int):Prop where
 len:l.length≤1000
 all:∀ x∈l,-10000000000000≤x∧x≤10000000000000
theorem L7.take {l:List Int} (h:L7 l) (i:Nat) : -10000000000000000≤A2 (l.take i)∧A2 (l.take i)≤10000000000000000:=by
 have h1:=B8l (l:=l.take i) (B:=10000000000000) (by decide) fun x hx=>h.all x (D8k hx)
 have h2:(l.take i).length≤1000:=by rw [D5v];have:=h.len;omega
 omega
theorem L7.sum {l:List Int} (h:L7 l) : -10000000000000000≤A2 l∧A2 l≤10000000000000000:=by
 have:=h.take l.length
 rwa [D5w] at this
theorem L7.step {l:List Int} (h:L7 l) {i:Nat} (hi:i<l.length):IntKind.i64.wrap (A2 (l.take i)+gI l i)=A2 (l.take (i+1)):=by
 have h1:=h.take (i+1)
 rw [K7 hi] at h1 ⊢
 exact A5 (by omega) (by omega)
structure A2o (t:Tax) (z:K2) (cats:List C8) (nets:List Int) (ship:Int):Prop where
 tax:taxC t=true
 zone:X3 z=true
 cats:cats.length=nets.length
 nets:A4y nets
 ship:0≤ship∧ship≤10000000000000
structure B8F (q:A1I) (n:Nat):Prop where
 goods:L7 q.goods
 taxes:L7 q.taxes
 ngoods:q.goods.length=n
 ntaxes:q.taxes.length=n
 pos:∀ x∈q.taxes,0≤x
 ship:0≤q.ship∧q.ship≤10000000000000
 shipTax:0≤q.shipTax∧q.shipTax≤10000000000000
 total:q.total=A2 q.goods+A2 q.taxes+q.ship+q.shipTax
theorem A3o {t:Tax} {z:K2} {cats:List C8} {nets:List Int} {ship:Int} (h:A2o t z cats nets ship):(cats.map (E9 z)).length=nets.length∧∀ x∈cats.map (E9 z),0≤x∧x≤10000:=by
 refine ⟨by rw [D5p];exact h.cats,fun x hx=>?_⟩
 obtain ⟨c,_,rfl⟩:=D5G.1 hx
 exact B6b h.zone c
theorem B0j {t:Tax} {z:K2} {cats:List C8} {nets:List Int} {ship:Int} (h:A2o t z cats nets ship) (exempt:Bool) (deals:List A1G):B8F (B4m (L1 t z exempt cats nets ship) deals) nets.length:=by
 obtain ⟨r1,r2⟩:=A3o h
 obtain ⟨t1,t2⟩:=A6i (t:=t) h.nets r1 r2
 have hz:=(A4u h.zone).2.1
 have hm:=A2N (t:=t) h.ship.1 hz
 have hs:=h.ship
 have hn:=h.nets
 have hnx:∀ i,i<nets.length→0≤gI nets i∧gI nets i≤10000000000000:=fun i hi=>by
  have h1:=hn.pos _ (show gI nets i∈nets from A7 hi)
  have h2:=J0 hn.pos (show gI nets i∈nets from A7 hi)
  have h3:=hn.sum
  exact ⟨h1,by omega⟩
 have htx:∀ i,i<nets.length→0≤gI (K5 t (cats.map (E9 z)) nets) i∧gI (K5 t (cats.map (E9 z)) nets) i≤10000000000000:=fun i hi=>t2 _ (A7 (by omega))
 have hnl:=hn.len
 have gl:(A2s t (K5 t (cats.map (E9 z)) nets) nets).length=nets.length:=by unfold A2s;rw [D5p,D5O]
 refine ⟨⟨by show (A2s _ _ _).length≤_;omega,fun x hx=>?_⟩,⟨?_,fun x hx=>?_⟩,gl,?_,fun x hx=>?_,?_,?_,rfl⟩
 ·obtain ⟨i,hi,rfl⟩:=D5G.1 (show x∈A2s _ _ _ from hx)
  have hi:=D5B.1 hi
  have h1:=hnx i hi
  have h2:=htx i hi
  split<;>omega
 ·show (if exempt=true then List.replicate nets.length 0 else K5 t (cats.map (E9 z)) nets).length≤1000
  split
  ·rw [D6u];omega
  ·omega
 ·have hx:x∈(if exempt=true then List.replicate nets.length 0 else K5 t (cats.map (E9 z)) nets):=hx
  split at hx
  ·rw [(List.mem_replicate.1 hx).2];omega
  ·have:=t2 x hx;omega
 ·show (if exempt=true then List.replicate nets.length 0 else K5 t (cats.map (E9 z)) nets).length=nets.length
  split
  ·exact D6u
  ·exact t1
 ·have hx:x∈(if exempt=true then List.replicate nets.length 0 else K5 t (cats.map (E9 z)) nets):=hx
  split at hx
  ·rw [(List.mem_replicate.1 hx).2];exact D5W _
  ·exact (t2 x hx).1
 ·show 0≤(if t.incl=true then ship - N5 t ship z.ship else ship)∧(if t.incl=true then ship - N5 t ship z.ship else ship)≤10000000000000
  split<;>omega
 ·show 0≤(if exempt=true then 0 else N5 t ship z.ship)∧(if exempt=true then 0 else N5 t ship z.ship)≤10000000000000
  split<;>omega
theorem B2Z {t:Tax} {z:K2} {cats:List C8} {nets:List Int} {ship:Int} (h:A2o t z cats nets ship) (exempt:Bool) :
  A2 (L1 t z exempt cats nets ship).goods≤10000000000000∧-10000000000000≤A2 (L1 t z exempt cats nets ship).goods∧A2 (L1 t z exempt cats nets ship).taxes≤10000000000000:=by
 obtain ⟨r1,r2⟩:=A3o h
 obtain ⟨t1,t2⟩:=A6i (t:=t) h.nets r1 r2
 have hs:=h.nets.sum
 have hle:∀ i,i<nets.length→gI (K5 t (cats.map (E9 z)) nets) i≤gI nets i:=fun i hi=>B6A h.nets r1 r2 hi
 have h0:∀ i,i<nets.length→0≤gI (K5 t (cats.map (E9 z)) nets) i:=fun i hi=>(t2 _ (A7 (by omega))).1
 have hn0:∀ i,i<nets.length→0≤gI nets i:=fun i hi=>h.nets.pos _ (A7 hi)
 have hrn:=A5Z nets
 have hg:A2 (A2s t (K5 t (cats.map (E9 z)) nets) nets)≤A2 ((List.range nets.length).map (gI nets)):=by
  refine A6g _ _ _ fun i hi=>?_
  have:=h0 i hi
  split<;>omega
 have hg0:0≤A2 (A2s t (K5 t (cats.map (E9 z)) nets) nets):=C1 fun x hx=>by
  obtain ⟨i,hi,rfl⟩:=D5G.1 hx
  have hi:=D5B.1 hi
  have h1:=hle i hi
  have h2:=hn0 i hi
  split<;>omega
 have ht:A2 (K5 t (cats.map (E9 z)) nets)≤A2 ((List.range nets.length).map (gI nets)):=by
  have e:=A5Z (K5 t (cats.map (E9 z)) nets)
  rw [t1] at e
  rw [←e]
  exact A6g _ _ _ fun i hi=>hle i hi
 rw [hrn] at hg ht
 refine ⟨by show A2 (A2s _ _ _)≤_;omega,by show _≤A2 (A2s _ _ _);omega,?_⟩
 show A2 (if exempt=true then List.replicate nets.length 0 else K5 t (cats.map (E9 z)) nets)≤_
 split
 ·have e:∀ n,A2 (List.replicate n (0:Int))=0:=fun n=>by
   induction n with
   | zero=>rfl
   | succ n ih=>rw [List.replicate_succ,J3,ih];rfl
  rw [e];omega
 ·omega
theorem C1I (t:Tax) {k:Nat} (hk:k<3):Y7 (K8 t).zones (P7 k)=some (D5 t.zones k):=by
 have e:∀ j,(D5 t.zones j).name=P7 j:=fun j=>by unfold D5;split<;>rfl
 have h:(K8 t).zones=[D5 t.zones 0,D5 t.zones 1,D5 t.zones 2]:=rfl
 have d01:((P7 (0:Nat)).toList==(P7 (1:Nat)).toList)=false:=by kernel_rfl
 have d02:((P7 (0:Nat)).toList==(P7 (2:Nat)).toList)=false:=by kernel_rfl
 have d12:((P7 (1:Nat)).toList==(P7 (2:Nat)).toList)=false:=by kernel_rfl
 unfold Y7
 rw [h]
 rcases lt3 hk with rfl | rfl | rfl
 ·rw [D8b (by rw [e];exact D7v _)]
 ·rw [D8c (by rw [e,d01];simp),D8b (by rw [e];exact D7v _)]
 ·rw [D8c (by rw [e,d02];simp),D8c (by rw [e,d12];simp),D8b (by rw [e];exact D7v _)]
theorem B7j {t:Tax} (h:taxC t=true) {s:C8} {z:K2} (hz:Y7 t.zones s=some z):X3 z=true:=by
 unfold taxC at h
 simp only [D5r] at h
 obtain ⟨k,hk,rfl⟩:=D3 (D7K hz)
 exact A4a.1 h.2.1 k hk
end Go.Proofs.YtaapofnkmpiknaaGreat
