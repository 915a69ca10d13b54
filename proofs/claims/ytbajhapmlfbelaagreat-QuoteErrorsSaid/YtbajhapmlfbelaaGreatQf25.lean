/- Part 25 of the proof: contracts of the functions that the law reaches -/
import Derived.Test.YtbajhapmlfbelaaGreatQf24
set_option maxRecDepth 100000
set_option linter.unusedVariables false
set_option linter.unusedSimpArgs false
namespace Go.Proofs.YtbajhapmlfbelaaGreat
open Go Go.Ab
attribute [local irreducible] upd del
abbrev Sm (n:Nat):Prop:=n≤9223372036854775807
theorem A2Z (s:D6) (hs:Sm s.size) (st:St):S P 120 [eS s] st fun v st'=>v=.bool (F9 s)∧st'=st:=by
 refine G0 [] Tryz.func120 ?_
 refine lp s.size [0,3] (fun i vs st'=>(∀ k,k<i→okc (chr s k)=true)∧vs=[eS s,eI i]∧st'=st) ?_ ?_
 ·conv=>whnf
  exact ⟨fun k hk=>absurd hk (by omega),rfl,rfl⟩
 ·rintro i vs st' hi ⟨hok,rfl,rfl⟩
  conv=>whnf
  cases h:decide ((i:Int)<(s.size:Int))
  ·obtain rfl:=C6 h hi
   have e:F9 s=(decide ((s.size:Int)≥1)&&decide ((s.size:Int)≤12)):=by
    unfold F9
    rw [A5O hok,Bool.and_true]
    congr 1<;>exact decide_eq_decide.2 (by omega)
   rw [e];conv=>whnf
   refine B9 (fun h1=>?_) (fun h1=>?_)<;>rw [h1]<;>(conv=>whnf)<;>exact ⟨rfl,rfl⟩
  ·have hi':=E4 h
   have no:okc (chr s i)=false→F9 s=false:=fun h=>by unfold F9;rw [A3D hi' h,Bool.and_false]
   have yes:okc (chr s i)=true→∀ k,k<i+1→okc (chr s k)=true:=fun h=>K0 hok h
   conv=>whnf
   refine C3O (i:=i) rfl hi' ?_
   generalize chr s i=c at *
   repeat' ((conv=>whnf);refine B9 (fun h=>?_) (fun h=>?_)<;>rw [h])
   all_goals (conv=>whnf)
   all_goals first
    | (refine ⟨?_,rfl⟩
       rw [no (by rw [←Bool.not_eq_true,A9r];simp only [Bool.not_eq_true',Bool.not_eq_false',beq_iff_eq,beq_eq_false_iff_ne,ne_eq,decide_eq_true_eq,decide_eq_false_iff_not] at *;omega)]
       rfl)
    | (refine ⟨rfl,?_⟩
       conv=>whnf
       exact nx hi' ⟨yes ((A9r c).2 (by simp only [Bool.not_eq_true',Bool.not_eq_false',beq_iff_eq,beq_eq_false_iff_ne,ne_eq,decide_eq_true_eq,decide_eq_false_iff_not] at *;omega)),by rw [B8 (by omega)],rfl⟩)
theorem A2c (x m:Int) (st:St):S P 158 [eI x,eI m] st fun v st'=>v=.bool (Q9 0 m x)∧st'=st:=by
 refine G0 [] Tryz.func158 ?_
 unfold Q9
 refine B9 (fun h=>?_) (fun h=>?_)<;>rw [h]<;>(conv=>whnf)<;>exact ⟨rfl,rfl⟩
theorem B6G (l:List D6) (s:D6) (hl:Sm l.length) (st:St):S P 162 [D2 l,eS s] st fun v st'=>v=.bool (l.any fun y=>y.toList==s.toList)∧st'=st:=by
 refine G0 [] Tryz.func162 ?_
 refine lp l.length [0,1,5] (fun i vs st'=>(∀ k,k<i→((l.getD k default).toList==s.toList)=false)∧vs=[D2 l,eS s,eI i]∧st'=st) ?_ ?_
 ·conv=>whnf
  exact ⟨fun k hk=>absurd hk (by omega),rfl,rfl⟩
 ·rintro i vs st' hi ⟨hok,rfl,rfl⟩
  conv=>whnf
  cases h:decide ((i:Int)<(l.length:Int))
  ·obtain rfl:=C6 h hi
   conv=>whnf
   refine ⟨?_,rfl⟩
   rw [List.any_eq_false.2 fun x hx=>by obtain ⟨k,hk,rfl⟩:=E3 hx;rw [hok k hk];simp];rfl
  ·have hi':=E4 h
   conv=>whnf
   refine E1 ?_
   cases h1:((l.getD (i:Int).toNat default).toList==s.toList)
   ·conv=>whnf
    refine G7 ?_
    exact nx hi' ⟨K0 hok h1,by rw [B8 (by omega)],rfl⟩
   ·conv=>whnf
    refine ⟨?_,rfl⟩
    rw [List.any_eq_true.2 ⟨_,B3 hi',h1⟩];rfl
theorem B7T (a b:D6):(Op.bytesLess a.toList b.toList||a.toList==b.toList)=!slt b a:=by
 show (slt a b||_)=_
 cases h:slt a b with
 | true=>rw [A6b h];rfl
 | false =>
  cases h2:slt b a with
  | true =>
   rw [Bool.false_or,Bool.not_true,beq_eq_false_iff_ne]
   intro e
   rw [B2n e.symm e,h] at h2;cases h2
  | false=>rw [Bool.false_or,beq_iff_eq.2 (A6c h h2)];rfl
theorem B0K (l:List D6) (m:Int) (hl:Sm l.length) (hs:∀ s∈l,Sm s.size) (st:St):S P 160 [D2 l,eI m] st fun v st'=>v=.bool (A0n l&&decide ((l.length:Int)≤m))∧st'=st:=by
 have hN:A0n l=K7 l fun k x=>F9 x&&O1 l k:=by
  unfold A0n Z0 K7
  rw [←Bool.coe_iff_coe]
  simp only [Bool.and_eq_true,List.all_eq_true,List.mem_range,Bool.not_eq_true',List.any_eq_false,Bool.not_eq_true,Bool.not_eq_false']
  exact ⟨fun ⟨a,b⟩ k hk=>⟨Bool.not_eq_false _▸b _ (B3 hk),a k hk⟩,fun h=>⟨fun k hk=>(h k hk).2,fun x hx=>by obtain ⟨k,hk,rfl⟩:=E3 hx;rw [(h k hk).1];simp⟩⟩
 rw [hN]
 refine G0 [] Tryz.func160 ?_
 refine lp l.length [0,1,5] (fun i vs st'=>(∀ k,k<i→(F9 (l.getD k default)&&O1 l k)=true)∧vs=[D2 l,eI m,eI i]∧st'=st) ?_ ?_
 ·conv=>whnf
  exact ⟨fun k hk=>absurd hk (by omega),rfl,rfl⟩
 ·rintro i vs st' hi ⟨hok,rfl,rfl⟩
  conv=>whnf
  cases h:decide ((i:Int)<(l.length:Int))
  ·obtain rfl:=C6 h hi
   conv=>whnf
   rw [K3 hok]
   exact ⟨rfl,rfl⟩
  ·have hi':=E4 h
   have yes:(F9 (l.getD (i:Int).toNat default)&&O1 l i)=true→∀ k,k<i+1→(F9 (l.getD k default)&&O1 l k)=true:=fun h=>K0 hok h
   have no:(F9 (l.getD (i:Int).toNat default)&&O1 l i)=false→(K7 l fun k x=>F9 x&&O1 l k)=false:=fun h=>U3 hi' h
   conv=>whnf
   refine ⟨[],[],List.range 22,by kernel_rfl,?_⟩;conv=>whnf
   refine E1 ?_
   have n1:=A2Z (l.getD (i:Int).toNat default) (hs _ (B3 hi')) st'
   generalize F9 (l.getD (i:Int).toNat default)=b1 at n1 no yes
   refine X9 n1 ?_
   cases b1
   ·conv=>whnf
    rw [no rfl]
    exact ⟨rfl,rfl⟩
   ·rw [Bool.true_and] at no yes;conv=>whnf
    cases h2:decide ((i:Int)>0)
    ·have h0:i=0:=by have:=of_decide_eq_false h2;omega
     conv=>whnf
     refine G7 ?_
     exact nx hi' ⟨yes (by rw [h0];rfl),by rw [B8 (by omega)],rfl⟩
    ·have hp:0<i:=by have:=of_decide_eq_true h2;omega
     have hw:IntKind.i64.wrap ((i:Int) - 1)=((i - 1:Nat):Int):=by rw [A9 (by omega) (by omega)];omega
     have e:O1 l i=!(Op.bytesLess (l.getD (i:Int).toNat default).toList (l.getD ((i - 1:Nat):Int).toNat default).toList||(l.getD (i:Int).toNat default).toList==(l.getD ((i - 1:Nat):Int).toNat default).toList):=by
      rw [B7T,Bool.not_not]
      unfold O1
      rw [Int.toNat_natCast,Int.toNat_natCast,beq_false_of_ne (by omega),Bool.false_or]
     rw [e] at yes no;conv=>whnf
     refine E1 ?_
     rw [hw]
     refine E1 ?_
     generalize (Op.bytesLess (l.getD (i:Int).toNat default).toList (l.getD ((i - 1:Nat):Int).toNat default).toList||(l.getD (i:Int).toNat default).toList==(l.getD ((i - 1:Nat):Int).toNat default).toList)=b at *
     cases b
     ·conv=>whnf
      refine G7 ?_
      exact nx hi' ⟨yes rfl,by rw [B8 (by omega)],rfl⟩
     ·conv=>whnf
      rw [no rfl]
      exact ⟨rfl,rfl⟩
structure A0X (s:T8):Prop where
 n1:Sm s.skus.length
 n2:Sm s.cats.length
 s1:∀ x∈s.skus,Sm x.size
 s2:∀ x∈s.cats,Sm x.size
theorem B4Z (s:T8) (h:A0X s) (st:St):S P 303 [A3f s] st fun v st'=>v=.bool (Z1 s)∧st'=st:=by
 refine G0 [1] Tryz.func303 ?_
 refine C5 (B0K s.skus 20 h.n1 h.s1 st) ?_
 have e:Z1 s=((A0n s.skus&&decide ((s.skus.length:Int)≤20))&&(A0n s.cats&&decide ((s.cats.length:Int)≤20))):=by
  unfold Z1
  rw [Bool.and_comm (decide _),Bool.and_comm (decide (s.cats.length≤20))]
  rw [show decide ((s.skus.length:Int)≤20)=decide (s.skus.length≤20) from decide_eq_decide.2 (by omega),show decide ((s.cats.length:Int)≤20)=decide (s.cats.length≤20) from decide_eq_decide.2 (by omega)]
 rw [e]
 cases (A0n s.skus&&decide ((s.skus.length:Int)≤20))
 ·conv=>whnf
  exact ⟨rfl,rfl⟩
 ·conv=>whnf
  refine I2 (B0K s.cats 20 h.n2 h.s2 st) ?_
  exact ⟨rfl,rfl⟩
theorem B7O (l:List Ab.Item) (s:D6) (hl:Sm l.length) (st:St):S P 109 [B1 4 F1 l,eS s] st fun v st'=>v=eI (T9 l s)∧st'=st:=by
 refine G0 [] Tryz.func109 ?_
 refine lp l.length [0,1,5] (fun i vs st'=>(∀ k,k<i→((l.getD k default).sku.toList==s.toList)=false)∧vs=[B1 4 F1 l,eS s,eI i]∧st'=st) ?_ ?_
 ·conv=>whnf
  exact ⟨fun k hk=>absurd hk (by omega),rfl,rfl⟩
 ·rintro i vs st' hi ⟨hok,rfl,rfl⟩
  conv=>whnf
  cases h:decide ((i:Int)<(l.length:Int))
  ·obtain rfl:=C6 h hi
   conv=>whnf
   exact ⟨by rw [show T9 l s = -1 from T3 fun k hk=>hok k hk];rfl,rfl⟩
  ·have hi':=E4 h
   conv=>whnf
   refine E1 ?_
   refine B9 (fun h1=>?_) (fun h1=>?_)<;>rw [h1]
   ·conv=>whnf
    exact ⟨by rw [show T9 l s=i from A1z hi' hok h1];rfl,rfl⟩
   ·conv=>whnf
    refine G7 ?_
    exact nx hi' ⟨K0 hok h1,by rw [B8 (by omega)],rfl⟩
theorem B3p {L:List D6} {i:Nat} (hp:0<i):O1 L i=!(Op.bytesLess (L.getD i default).toList (L.getD (i - 1) default).toList||(L.getD i default).toList==(L.getD (i - 1) default).toList):=by
 rw [B7T,Bool.not_not]
 unfold O1
 rw [beq_false_of_ne (by omega),Bool.false_or]
theorem A6t {i:Nat} (h:0<i) (h2:i<9223372036854775807):IntKind.i64.wrap ((i:Int) - 1)=((i - 1:Nat):Int):=by rw [A9 (by omega) (by omega)];omega
def A5a (l:List Ab.Item) (k:Nat) (x:Ab.Item):Bool:=F9 x.sku&&F9 x.cat&&Q9 0 1000000000 x.price&&O1 (l.map Ab.Item.sku) k
theorem C1R (l:List Ab.Item) (hl:Sm l.length) (hs:∀ x∈l,Sm x.sku.size∧Sm x.cat.size) (st:St):S P 155 [B1 4 F1 l] st fun v st'=>v=.bool (A1c l)∧st'=st:=by
 have hN:A1c l=(K7 l (A5a l)&&decide ((l.length:Int)≤500)):=by
  unfold A1c K7 Z0 A5a A3B Q9
  rw [List.length_map,←Bool.coe_iff_coe]
  simp only [Bool.and_eq_true,List.all_eq_true,List.mem_range,Bool.not_eq_true',Bool.or_eq_false_iff,Bool.not_eq_false',decide_eq_true_eq,decide_eq_false_iff_not]
  constructor
  ·rintro ⟨h1,h2,h3⟩
   exact ⟨fun k hk=>⟨⟨⟨(h2 k hk).1.1.1,(h2 k hk).1.1.2⟩,by have:=(h2 k hk).1.2;have:=(h2 k hk).2;omega⟩,h3 k hk⟩,by omega⟩
  ·rintro ⟨h1,h2⟩
   exact ⟨by omega,fun k hk=>⟨⟨⟨(h1 k hk).1.1.1,(h1 k hk).1.1.2⟩,by have:=(h1 k hk).1.2;omega⟩,by have:=(h1 k hk).1.2;omega⟩,fun k hk=>(h1 k hk).2⟩
 rw [hN]
 refine G0 [] Tryz.func155 ?_
 refine lp l.length [0,3] (fun i vs st'=>(∀ k,k<i→A5a l k (l.getD k default)=true)∧vs=[B1 4 F1 l,eI i]∧st'=st) ?_ ?_
 ·conv=>whnf
  exact ⟨fun k hk=>absurd hk (by omega),rfl,rfl⟩
 ·rintro i vs st' hi ⟨hok,rfl,rfl⟩
  conv=>whnf
  cases h:decide ((i:Int)<(l.length:Int))
  ·obtain rfl:=C6 h hi
   conv=>whnf
   rw [K3 hok]
   exact ⟨rfl,rfl⟩
  ·have hi':=E4 h
   have yes:A5a l i (l.getD (i:Int).toNat default)=true→∀ k,k<i+1→A5a l k (l.getD k default)=true:=fun h=>K0 hok h
   have no:A5a l i (l.getD (i:Int).toNat default)=false→K7 l (A5a l)=false:=fun h=>U3 hi' h
   have hm:=hs _ (B3 hi')
   have n1:=A2Z (l.getD (i:Int).toNat default).sku hm.1 st'
   have n2:=A2Z (l.getD (i:Int).toNat default).cat hm.2 st'
   have n3:=A2c (l.getD (i:Int).toNat default).price 1000000000 st'
   have e:0<i→O1 (l.map Ab.Item.sku) i=!(Op.bytesLess (l.getD i default).sku.toList (l.getD (i - 1) default).sku.toList||(l.getD i default).sku.toList==(l.getD (i - 1) default).sku.toList):=fun hp=>by
    rw [B3p hp]
    have e1:(l.map Ab.Item.sku).getD i default=(l.getD i default).sku:=E6 Ab.Item.sku l hi'
    have e2:(l.map Ab.Item.sku).getD (i - 1) default=(l.getD (i - 1) default).sku:=E6 Ab.Item.sku l (by omega)
    rw [e1,e2]
   have e0:i=0→O1 (l.map Ab.Item.sku) i=true:=fun h=>by rw [h];rfl
   rw [show A5a l i (l.getD (i:Int).toNat default)=(F9 (l.getD (i:Int).toNat default).sku&&F9 (l.getD (i:Int).toNat default).cat&&Q9 0 1000000000 (l.getD (i:Int).toNat default).price&&O1 (l.map Ab.Item.sku) i) from rfl] at yes no
   generalize F9 (l.getD (i:Int).toNat default).sku=b1 at n1 yes no
   generalize F9 (l.getD (i:Int).toNat default).cat=b2 at n2 yes no
   generalize Q9 0 1000000000 (l.getD (i:Int).toNat default).price=b3 at n3 yes no
   conv=>whnf
   refine ⟨[],[],List.range 43,by kernel_rfl,?_⟩
   cases h0:decide ((i:Int)>0)
   ·have h0':i=0:=by have:=of_decide_eq_false h0;omega
    replace e:=e0 h0'
    repeat' ((conv=>whnf);first | refine ⟨rfl,⟨by omega,by omega⟩,?_⟩ | refine ⟨_,N4 n1,?_⟩ | refine ⟨_,N4 n2,?_⟩ | refine ⟨_,N4 n3,?_⟩ | rw [h0] | cases b1 | cases b2 | cases b3)
    all_goals (conv=>whnf)
    all_goals first
     | (rw [no (by rfl)];exact ⟨rfl,rfl⟩)
     | (refine ⟨rfl,?_⟩;conv=>whnf
        exact nx hi' ⟨yes (by rw [e];rfl),by rw [B8 (by omega)],rfl⟩)
   ·have h0':0<i:=by have:=of_decide_eq_true h0;omega
    replace e:=e h0'
    have hw:=A6t h0' (by omega)
    repeat' ((conv=>whnf);first | refine ⟨rfl,⟨by omega,by omega⟩,?_⟩ | refine ⟨rfl,⟨by rw [hw];omega,by rw [hw];omega⟩,?_⟩ | refine ⟨_,N4 n1,?_⟩ | refine ⟨_,N4 n2,?_⟩ | refine ⟨_,N4 n3,?_⟩ | rw [h0] | cases b1 | cases b2 | cases b3 | refine B9 (fun h=>?_) (fun h=>?_))
    all_goals (conv=>whnf)
    all_goals first
     | (rw [no (by rfl)];exact ⟨rfl,rfl⟩)
     | (rw [hw] at h;rw [no (by rw [e];exact congrArg not h)];exact ⟨rfl,rfl⟩)
     | (rw [hw] at h;refine ⟨rfl,?_⟩;conv=>whnf
        exact nx hi' ⟨yes (by rw [e];exact congrArg not h),by rw [B8 (by omega)],rfl⟩)
theorem C6c (s:T8) (x:Ab.Item) (h1:Sm s.skus.length) (h2:Sm s.cats.length) (st:St):S P 111 [A3f s,F1 x] st fun v st'=>v=.bool (A9d s x)∧st'=st:=by
 have e:A9d s x=(((s.skus.length:Int)==0&&(s.cats.length:Int)==0)||(s.skus.any fun y=>y.toList==x.sku.toList)||(s.cats.any fun y=>y.toList==x.cat.toList)):=by
  unfold A9d inB
  rw [A2V,A2V]
  congr 1
  ·congr 1
   ·rw [←Bool.coe_iff_coe];simp only [Bool.and_eq_true,beq_iff_eq];omega
   ·congr 1;funext y;exact Bool.beq_comm
  ·congr 1;funext y;exact Bool.beq_comm
 rw [e]
 have n1:=B6G s.skus x.sku h1 st
 have n2:=B6G s.cats x.cat h2 st
 generalize (s.skus.any fun y=>y.toList==x.sku.toList)=b1 at *
 generalize (s.cats.any fun y=>y.toList==x.cat.toList)=b2 at *
 refine SyW [2,3] Tryz.func111 ?_
 clear e
 repeat' ((conv=>whnf);first | refine C5 n1 ?_ | refine C5 n2 ?_ | (refine B9 (fun h=>?_) (fun h=>?_)<;>rw [h]))
 all_goals (conv=>whnf)
 all_goals (refine ⟨?_,rfl⟩;show AV.bool _=AV.bool _;simp only [*,Bool.true_and,Bool.false_and,Bool.or_true,Bool.or_false,Bool.true_or,Bool.false_or])
theorem B7c {l:List G1} (h:∀ x∈l,lineC x=true) {i:Nat} (hi:i≤l.length):L2 (l.take i)≤L2 l∧J9 (l.take i)≤J9 l:=by
 have:∀ j,i+j≤l.length→L2 (l.take i)≤L2 (l.take (i+j))∧J9 (l.take i)≤J9 (l.take (i+j)):=by
  intro j
  induction j with
  | zero=>intro _;exact ⟨Int.le_refl _,Int.le_refl _⟩
  | succ j ih =>
   intro hj
   obtain ⟨h1,h2⟩:=ih (by omega)
   have hm:=B3 (l:=l) (i:=i+j) (by omega)
   have e1:L2 (l.take (i+j+1))=L2 (l.take (i+j))+(l.getD (i+j) default).qty:=Q3 (by omega) _ _
   have e2:J9 (l.take (i+j+1))=J9 (l.take (i+j))+(l.getD (i+j) default).qty * (l.getD (i+j) default).price:=Q3 (by omega) _ _
   have h3:=B0e (h _ hm)
   have h4:=(Z9 _).1 (h _ hm)
   rw [show i+(j+1)=i+j+1 by omega,e1,e2];omega
 have h2:=this (l.length - i) (by omega)
 rw [show i+(l.length - i)=l.length by omega,List.take_length] at h2;exact h2
theorem B6H (l:List G1) (st:St):S P 161 [B1 3 G4 l] st fun v st'=>v=eI (N9 (fun _=>true) l)∧st'=st:=by
 refine G0 [] Tryz.func161 ?_
 refine B9 (fun h=>?_) (fun h=>?_)<;>rw [h]<;>simp only [decide_eq_true_eq,decide_eq_false_iff_not] at h
 ·conv=>whnf
  exact ⟨by rw [show N9 (fun _=>true) l=6 from if_pos (by omega)];rfl,rfl⟩
 have hs:l.length≤1000:=by omega
 have hc:N9 (fun _=>true) l=match l.find? (J4 (fun _=>true)) with
  | some x=>if (fun _=>true) x.sku=true then 2 else 7
  | none=>if (decide (L2 l>100000)||decide (J9 l>10000000000000))=true then 5 else 0:=if_neg (by omega)
 conv=>whnf
 refine lp l.length [0,3] (fun i vs s=>(∀ k,k<i→lineC (l.getD k default)=true)∧vs=[B1 3 G4 l,eI i]∧s=st) ?_ ?_
 ·conv=>whnf
  exact ⟨fun k hk=>absurd hk (by omega),rfl,rfl⟩
 ·rintro i vs st' hi ⟨hok,rfl,rfl⟩
  conv=>whnf
  cases h:decide ((i:Int)<(l.length:Int))
  ·obtain rfl:=C6 h hi
   have hall:∀ x∈l,lineC x=true:=fun x hx=>by obtain ⟨k,hk,rfl⟩:=E3 hx;exact hok k hk
   rw [A8f fun k hk=>by unfold J4;rw [hok k hk];rfl] at hc
   simp only at hc
   conv=>whnf
   refine lp l.length [0,4,5,6] (fun i vs s=>(0≤L2 (l.take i)∧L2 (l.take i)≤100000)∧(0≤J9 (l.take i)∧J9 (l.take i)≤10000000000000)∧vs=[B1 3 G4 l,eI (L2 (l.take i)),eI (J9 (l.take i)),eI i]∧s=st') ?_ ?_
   ·conv=>whnf
    exact ⟨⟨Int.le_refl _,by rw [List.take_zero];decide⟩,⟨Int.le_refl _,by rw [List.take_zero];decide⟩,rfl,rfl⟩
   ·rintro i vs st' hi ⟨hu,hg,rfl,rfl⟩
    conv=>whnf
    cases h:decide ((i:Int)<(l.length:Int))
    ·obtain rfl:=C6 h hi
     rw [List.take_length] at hu hg
     rw [if_neg (by rw [decide_eq_false (show ¬ L2 l>100000 by omega),decide_eq_false (show ¬ J9 l>10000000000000 by omega)];simp)] at hc;conv=>whnf
     exact ⟨by rw [hc];rfl,rfl⟩
    ·have hi':=E4 h
     have hx:lineC (l.getD (i:Int).toNat default)=true:=hall _ (B3 hi')
     obtain ⟨⟨q0,q1⟩,_⟩:=(Z9 _).1 hx
     obtain ⟨m0,m1⟩:=B0e hx
     have eu:L2 (l.take (i+1))=L2 (l.take i)+(l.getD (i:Int).toNat default).qty:=Q3 hi' _ _
     have eg:J9 (l.take (i+1))=J9 (l.take i)+(l.getD (i:Int).toNat default).qty * (l.getD (i:Int).toNat default).price:=Q3 hi' _ _
     have w1:IntKind.i64.wrap (L2 (l.take i)+(l.getD (i:Int).toNat default).qty)=L2 (l.take (i+1)):=by rw [eu];exact A9 (by omega) (by omega)
     have w2:IntKind.i64.wrap ((l.getD (i:Int).toNat default).qty * (l.getD (i:Int).toNat default).price)=(l.getD (i:Int).toNat default).qty * (l.getD (i:Int).toNat default).price:=A9 (by omega) (by omega)
     have w3:IntKind.i64.wrap (J9 (l.take i)+(l.getD (i:Int).toNat default).qty * (l.getD (i:Int).toNat default).price)=J9 (l.take (i+1)):=by rw [eg];exact A9 (by omega) (by omega)
     have hmono:=B7c hall (show i+1≤l.length from hi')
     have bad:L2 (l.take (i+1))>100000∨J9 (l.take (i+1))>10000000000000→N9 (fun _=>true) l=5:=fun hb=>by
      rw [hc]
      refine if_pos ?_
      rw [Bool.or_eq_true,decide_eq_true_eq,decide_eq_true_eq];omega
     conv=>whnf
     refine E1 ?_
     rw [w1]
     refine ⟨[],[],List.range 14,by kernel_rfl,?_⟩;conv=>whnf
     refine E1 ?_
     refine E1 ?_
     rw [w2,w3]
     refine B9 (fun h1=>?_) (fun h1=>?_)<;>rw [h1]
     ·conv=>whnf
      exact ⟨by rw [bad (.inl (of_decide_eq_true h1))];rfl,rfl⟩
     ·conv=>whnf
      refine B9 (fun h2=>?_) (fun h2=>?_)<;>rw [h2]
      ·conv=>whnf
       exact ⟨by rw [bad (.inr (of_decide_eq_true h2))];rfl,rfl⟩
      ·conv=>whnf
       refine G7 ?_
       have:=of_decide_eq_false h1
       have:=of_decide_eq_false h2
       exact nx hi' ⟨⟨by rw [eu];omega,by omega⟩,⟨by rw [eg];omega,by omega⟩,by rw [B8 (by omega)],rfl⟩
  ·have hi':=E4 h
   have n3:=A2c (l.getD (i:Int).toNat default).price 1000000000 st'
   have yes:lineC (l.getD (i:Int).toNat default)=true→∀ k,k<i+1→lineC (l.getD k default)=true:=fun h=>K0 hok h
   have no:lineC (l.getD (i:Int).toNat default)=false→N9 (fun _=>true) l=2:=fun h=>by
    rw [hc,A3z hi' (fun k hk=>by unfold J4;rw [hok k hk];rfl) (by unfold J4;rw [show lineC (l.getD i default)=false from h];rfl)]
    exact if_pos rfl
   have e:lineC (l.getD (i:Int).toNat default)=(!decide ((l.getD (i:Int).toNat default).qty<0)&&!decide ((l.getD (i:Int).toNat default).qty>100000)&&Q9 0 1000000000 (l.getD (i:Int).toNat default).price):=by
    unfold lineC;congr 1;unfold Q9;congr 1<;>(rw [←decide_not];exact decide_eq_decide.2 (by omega))
   rw [e] at yes no
   generalize Q9 0 1000000000 (l.getD (i:Int).toNat default).price=b3 at n3 yes no
   clear e hc
   repeat' ((conv=>whnf);first | refine ⟨rfl,⟨by omega,by omega⟩,?_⟩ | refine C5 n3 ?_ | cases b3 | (refine B9 (fun h=>?_) (fun h=>?_)<;>rw [h]))
   all_goals (conv=>whnf)
   all_goals first
    | (refine ⟨?_,rfl⟩;rw [no (by simp only [*,Bool.not_true,Bool.false_and,Bool.and_false])];rfl)
    | (refine ⟨rfl,?_⟩;conv=>whnf
       exact nx hi' ⟨yes (by simp only [*,Bool.not_false,Bool.and_true]),by rw [B8 (by omega)],rfl⟩)
theorem B5M {kn:D6→Bool} {l:List G1} (h:∀ x∈l,J4 kn x=false):N9 kn l=N9 (fun _=>true) l:=by
 unfold N9
 rw [List.find?_eq_none.2 fun x hx=>by rw [h x hx];simp,List.find?_eq_none.2 fun x hx=>by
  have:=h x hx
  simp only [J4,Bool.not_eq_false',Bool.and_eq_true] at this
  unfold J4;rw [this.2];simp]
theorem C1P (items:List Ab.Item) (l:List G1) (hi:Sm items.length) (hl:Sm l.length) (st:St):S P 86 [B1 4 F1 items,B1 3 G4 l] st fun v st'=>v=eI (N9 (known items) l)∧st'=st:=by
 refine G0 [] Tryz.func86 ?_
 refine lp l.length [0,1,5] (fun i vs s=>(∀ k,k<i→J4 (known items) (l.getD k default)=false)∧vs=[B1 4 F1 items,B1 3 G4 l,eI i]∧s=st) ?_ ?_
 ·conv=>whnf
  exact ⟨fun k hk=>absurd hk (by omega),rfl,rfl⟩
 ·rintro i vs st' hi2 ⟨hok,rfl,rfl⟩
  conv=>whnf
  cases h:decide ((i:Int)<(l.length:Int))
  ·obtain rfl:=C6 h hi2
   conv=>whnf
   refine I2 (B6H l _) ?_
   rw [B5M (kn:=known items) fun x hx=>by obtain ⟨k,hk,rfl⟩:=E3 hx;exact hok k hk]
   exact ⟨rfl,rfl⟩
  ·have hi':=E4 h
   conv=>whnf
   refine B9 (fun h1=>?_) (fun h1=>?_)<;>rw [h1]
   ·have hs:l.length≤1000:=by have:=of_decide_eq_true h1;omega
    have hc:N9 (known items) l=match l.find? (J4 (known items)) with
     | some x=>if known items x.sku=true then 2 else 7
     | none=>if (decide (L2 l>100000)||decide (J9 l>10000000000000))=true then 5 else 0:=if_neg (by omega)
    have n1:=B7O items (l.getD (i:Int).toNat default).sku hi st'
    have n3:=A2c (l.getD (i:Int).toNat default).price 1000000000 st'
    have yes:J4 (known items) (l.getD (i:Int).toNat default)=false→∀ k,k<i+1→J4 (known items) (l.getD k default)=false:=fun h=>K0 hok h
    have no:J4 (known items) (l.getD (i:Int).toNat default)=true→N9 (known items) l=if known items (l.getD i default).sku=true then 2 else 7:=fun h=>by
     rw [hc,A3z hi' hok h]
    have e:J4 (known items) (l.getD (i:Int).toNat default)=!(!decide (T9 items (l.getD (i:Int).toNat default).sku<0)&&(!decide ((l.getD (i:Int).toNat default).qty<0)&&!decide ((l.getD (i:Int).toNat default).qty>100000)&&Q9 0 1000000000 (l.getD (i:Int).toNat default).price)):=by
     unfold J4 lineC known;congr 1;congr 1
     ·rw [←decide_not];exact decide_eq_decide.2 (by omega)
     ·congr 1;unfold Q9;congr 1<;>(rw [←decide_not];exact decide_eq_decide.2 (by omega))
    have e2:known items (l.getD i default).sku=!decide (T9 items (l.getD (i:Int).toNat default).sku<0):=by
     unfold known;rw [←decide_not];exact decide_eq_decide.2 (by rw [Int.toNat_natCast];omega)
    rw [e] at yes no
    rw [e2] at no
    generalize T9 items (l.getD (i:Int).toNat default).sku=F at *
    generalize Q9 0 1000000000 (l.getD (i:Int).toNat default).price=b3 at n3 yes no
    clear e e2 hc
    repeat' ((conv=>whnf);first | refine ⟨rfl,⟨by omega,by omega⟩,?_⟩ | refine C5 n1 ?_ | refine C5 n3 ?_ | cases b3 | (refine B9 (fun h=>?_) (fun h=>?_)<;>rw [h]))
    all_goals (conv=>whnf)
    all_goals first
     | (refine ⟨?_,rfl⟩;rw [no (by simp only [*,Bool.not_true,Bool.false_and,Bool.and_false,Bool.not_false]),if_neg (by simp only [*];simp)];rfl)
     | (refine ⟨?_,rfl⟩;rw [no (by simp only [*,Bool.not_true,Bool.false_and,Bool.and_false,Bool.not_false]),if_pos (by simp only [*,Bool.not_false])];rfl)
     | (refine ⟨rfl,?_⟩;conv=>whnf
        exact nx hi' ⟨yes (by simp only [*,Bool.not_false,Bool.and_true,Bool.not_true]),by rw [B8 (by omega)],rfl⟩)
   ·have:=of_decide_eq_false h1
    conv=>whnf
    refine I2 (B6H l _) ?_
    exact ⟨by rw [show N9 (known items) l=6 from if_pos (by omega),show N9 (fun _=>true) l=6 from if_pos (by omega)];rfl,rfl⟩
theorem C1V (l:List G1) (hl:l.length≤1000) (hok:∀ x∈l,lineC x=true) (hm:N9 (fun _=>true) l=0) (hN:(U0 l).length≤100000) (st:St):S P 87 [B1 3 G4 l] st fun v st'=>v=D1 (U0 l)∧st'=st:=by
 refine A1s (ty:=152) ?_
 refine G0 [] Tryz.func87 ?_
 refine C5 (B6H l _) ?_
 rw [hm];conv=>whnf
 refine lp l.length [0,3,4] (fun i vs s=>∃ sv,vs=[B1 3 G4 l,sv,eI i]∧F3 152 3 W8 (H0 l i) st sv s) ?_ ?_
 ·conv=>whnf
  exact ⟨.emp,rfl,F3.start _ _ _ _⟩
 ·rintro i vs st' hi ⟨sv,rfl,hc⟩
  conv=>whnf
  cases h:decide ((i:Int)<(l.length:Int))
  ·obtain rfl:=C6 h hi
   conv=>whnf
   exact hc
  ·have hi':=E4 h
   have hx:lineC (l.getD (i:Int).toNat default)=true:=hok _ (B3 hi')
   obtain ⟨⟨q0,q1⟩,_⟩:=(Z9 _).1 hx
   have hq:(l.getD (i:Int).toNat default).qty=((l.getD i default).qty.toNat:Int):=by rw [Int.toNat_natCast] at *;omega
   have hlt:=fun {j} (hj:j<(l.getD i default).qty.toNat)=>B1d hi' hj
   generalize hn:(l.getD i default).qty.toNat=n at *
   conv=>whnf
   refine lp n [0,3,4,5] (fun j vs s=>∃ sv,vs=[B1 3 G4 l,sv,eI i,eI j]∧F3 152 3 W8 (H0 l i++List.replicate j (lnU l i)) st sv s) ?_ ?_
   ·conv=>whnf
    exact ⟨sv,rfl,by rw [List.replicate_zero,List.append_nil];exact hc⟩
   ·clear hc
    rintro j vs s hj ⟨sv,rfl,hc⟩
    conv=>whnf
    refine E1 ?_
    rw [hq]
    cases h:decide ((j:Int)<(n:Int))
    ·obtain rfl:=C6 h hj
     conv=>whnf
     refine G7 ?_
     refine nx hi' ⟨sv,by rw [B8 (by omega)],?_⟩
     unfold H0;rw [hn];exact hc
    ·have hj':=E4 h
     have h5:=hlt hj'
     have h6:(H0 l l.length).length≤100000:=hN
     conv=>whnf
     refine E1 ?_
     refine F3.app (q:=B9e) (y:=lnU l i) rfl rfl rfl rfl rfl rfl (by show (_+1) * 24≤140737488355328;omega) hc (fun sv' s' hc'=>?_);conv=>whnf
     refine G7 ?_
     exact nx hj' ⟨sv',by rw [B8 (by omega)],by rw [List.replicate_succ',←List.append_assoc];exact hc'⟩
theorem B4U (items:List Ab.Item) (l:List G1) (hi:Sm items.length) (hl:l.length≤1000) (hk:∀ x∈l,known items x.sku=true) (st:St):S P 88 [B1 4 F1 items,B1 3 G4 l] st fun v st'=>v=B1 4 F1 (C3 items l)∧st'=st:=by
 refine A1s (ty:=64) ?_
 refine G0 [] Tryz.func88 ?_
 refine lp l.length [0,1,5,6] (fun i vs s=>∃ sv,vs=[B1 4 F1 items,B1 3 G4 l,sv,eI i]∧F3 64 4 F1 (C3 items (l.take i)) st sv s) ?_ ?_
 ·conv=>whnf
  exact ⟨.emp,rfl,F3.start _ _ _ _⟩
 ·rintro i vs st' hi2 ⟨sv,rfl,hc⟩
  conv=>whnf
  cases h:decide ((i:Int)<(l.length:Int))
  ·obtain rfl:=C6 h hi2
   rw [List.take_length] at hc;conv=>whnf
   exact hc
  ·have hi':=E4 h
   have hmem:l.getD (i:Int).toNat default∈l:=B3 hi'
   have hkn:=hk _ hmem
   simp only [known,decide_eq_true_eq] at hkn
   have hlt:=(A9V (fun x:Ab.Item=>x.sku.toList==(l.getD (i:Int).toNat default).sku.toList) items).2
   have hlt:T9 items (l.getD (i:Int).toNat default).sku<(items.length:Int):=hlt
   have hlen:(C3 items (l.take i)).length=i:=by unfold C3;rw [List.length_map,List.length_take];omega
   conv=>whnf
   refine E1 ?_
   refine I2 (B7O items (l.getD (i:Int).toNat default).sku (by omega) _) ?_
   refine B9 (fun h1=>?_) (fun h1=>?_)
   ·exact absurd (of_decide_eq_true h1) (by omega)
   ·rw [h1];conv=>whnf
    refine E1 ?_
    refine F3.app (q:=r64) (y:=items.getD (T9 items (l.getD (i:Int).toNat default).sku).toNat default) rfl rfl rfl rfl rfl rfl (by show (_+1) * 48≤140737488355328;omega) hc (fun sv' s' hc'=>?_);conv=>whnf
    refine G7 ?_
    refine nx hi' ⟨sv',by rw [B8 (by omega)],?_⟩
    unfold C3 at hc' ⊢
    rw [A2K hi'];exact hc'
end Go.Proofs.YtbajhapmlfbelaaGreat
namespace Go.Proofs.YtbajhapmlfbelaaGreat
open Go Go.Ab
theorem B2i (l:List B4) (o:List Int):(O4 l o).Perm o:=by
 have h:=(A0P l o).map fun e:QE=>gI o e.2.toNat
 rw [List.map_map] at h
 have e:(List.range o.length).map ((fun e:QE=>gI o e.2.toNat) ∘ B0F l o)=o:=by
  refine List.ext_getElem (by simp) fun k h1 h2=>?_
  rw [List.getElem_map,List.getElem_range]
  show o.getD k default=_
  rw [List.getD_eq_getElem?_getD,List.getElem?_eq_getElem h2];rfl
 rw [e] at h;exact h
end Go.Proofs.YtbajhapmlfbelaaGreat
namespace Go.Proofs.YtbajhapmlfbelaaGreat
open Go Go.Ab
attribute [local irreducible] upd del
def C7 (v n:Int):Int:=v % 18446744073709551616 % n
theorem E9 (v:Int) {n:Int} (h:0<n):0≤C7 v n∧C7 v n<n:=⟨Int.emod_nonneg _ (by omega),Int.emod_lt_of_pos _ h⟩
theorem B8f (x:Int):IntKind.u64.wrap x=x % 18446744073709551616:=rfl
theorem C1r (v:Int) {n:Int} (h0:0<n) (h1:n≤9223372036854775807):IntKind.i64.wrap (Int.tmod (IntKind.u64.wrap v) (IntKind.u64.wrap n))=C7 v n:=by
 have h2:=E9 v h0
 have e1:IntKind.u64.wrap n=n:=by rw [B8f];omega
 have e2:Int.tmod (IntKind.u64.wrap v) n=C7 v n:=by rw [Int.tmod_eq_emod_of_nonneg (by rw [B8f];omega)];rfl
 rw [e1,e2,A9 (by omega) (by omega)]
theorem A1f (v n:Int) (h0:0<n) (h1:n≤9223372036854775807) (st:St):S P 60 [eI v,eI n] st fun r st'=>r=eI (C7 v n)∧st'=st:=by
 refine G0 [] Tryz.func60 ?_
 rw [decide_eq_false (show ¬ IntKind.u64.wrap n=0 by rw [B8f];omega)];conv=>whnf
 refine ⟨?_,rfl⟩
 rw [←C1r v h0 h1];rfl
theorem O2 (v n:Int) (h0:0<n) (h1:n≤9223372036854775807) (st:St):S P 66 [eI v,eI n] st fun r st'=>r=eI (C7 v n)∧st'=st:=by
 refine G0 [] Tryz.func66 ?_
 rw [decide_eq_false (show ¬ IntKind.u64.wrap n=0 by rw [B8f];omega)];conv=>whnf
 refine ⟨?_,rfl⟩
 rw [←C1r v h0 h1];rfl
def W7 (c:Int):D6:=B1D [IntKind.u8.wrap c]
def A1n (n:Int):D6:=W7 (97+C7 n 8)
def A4H (n:Int):D6:=W7 (120+C7 n 3)
def idN (n:Int):D6:=(⟨#[112]⟩:D6)++W7 (48+C7 n 10)
def A4x (n:Int):D6:=(⟨#[99]⟩:D6)++W7 (48+C7 n 3)
theorem B2s (c x:Int):IntKind.u8.wrap (c+IntKind.u8.wrap x)=IntKind.u8.wrap (c+x):=by
 show (c+x % 256) % 256=(c+x) % 256
 omega
theorem C2m (n:Int) (st:St):S P 72 [eI n] st fun r st'=>r=eS (A1n n)∧st'=st:=by
 refine G0 [] Tryz.func72 ?_
 refine I2 (A1f n 8 (by decide) (by decide) _) ?_
 refine ⟨?_,rfl⟩
 show AV.str (B1D [IntKind.u8.wrap (97+IntKind.u8.wrap (C7 n 8))])=_
 rw [B2s];rfl
theorem A4e (n:Int) (st:St):S P 113 [eI n] st fun r st'=>r=eS (A4H n)∧st'=st:=by
 refine G0 [] Tryz.func113 ?_
 refine I2 (A1f n 3 (by decide) (by decide) _) ?_
 refine ⟨?_,rfl⟩
 show AV.str (B1D [IntKind.u8.wrap (120+IntKind.u8.wrap (C7 n 3))])=_
 rw [B2s];rfl
theorem D0c (n:Int) (st:St):S P 231 [eI n] st fun r st'=>r=eS (idN n)∧st'=st:=by
 refine G0 [] Tryz.func231 ?_
 refine I2 (A1f n 10 (by decide) (by decide) _) ?_
 refine ⟨?_,rfl⟩
 show AV.str ((⟨#[112]⟩:D6)++B1D [IntKind.u8.wrap (48+IntKind.u8.wrap (C7 n 10))])=_
 rw [B2s];rfl
theorem C0H (n:Int) (st:St):S P 71 [eI n] st fun r st'=>r=eS (A4x n)∧st'=st:=by
 refine G0 [] Tryz.func71 ?_
 refine I2 (A1f n 3 (by decide) (by decide) _) ?_
 refine ⟨?_,rfl⟩
 show AV.str ((⟨#[99]⟩:D6)++B1D [IntKind.u8.wrap (48+IntKind.u8.wrap (C7 n 3))])=_
 rw [B2s];rfl
def B3d (s:D6):Nat→Int
 | 0=>s.size
 | i+1=>IntKind.i64.wrap (IntKind.i64.wrap (7 * B3d s i)+chr s i)
def A2W (s:D6):Int:=B3d s (min s.size 8)
theorem C0E (s:D6) (i:Nat):0≤chr s i∧chr s i<256:=by
 unfold chr;split
 ·rename_i h;have:=(s[i]'h).toNat_lt;omega
 ·omega
theorem B0q (s:D6) (st:St):S P 73 [eS s] st fun r st'=>r=eI (A2W s)∧st'=st:=by
 refine G0 [] Tryz.func73 ?_
 refine lp (min s.size 8) [0,3,4] (fun i vs t=>vs=[eS s,eI (B3d s i),eI i]∧t=st) ?_ ?_
 ·conv=>whnf
  exact ⟨rfl,rfl⟩
 ·rintro i vs t hi ⟨rfl,rfl⟩
  conv=>whnf
  refine B9 (fun h1=>?_) (fun h1=>?_)<;>rw [h1]<;>simp only [decide_eq_true_eq,decide_eq_false_iff_not] at h1
  ·conv=>whnf
   refine B9 (fun h2=>?_) (fun h2=>?_)<;>rw [h2]<;>simp only [decide_eq_true_eq,decide_eq_false_iff_not] at h2
   ·have hi':i<min s.size 8:=by omega
    conv=>whnf
    refine C3O (i:=i) rfl (by omega) ?_;conv=>whnf
    refine G7 ?_
    refine nx hi' ⟨?_,rfl⟩
    rw [B8 (by omega)]
    have hc:IntKind.i64.wrap (chr s i)=chr s i:=A9 (by have:=C0E s i;omega) (by have:=C0E s i;omega)
    show [eS s,eI (IntKind.i64.wrap (IntKind.i64.wrap (7 * B3d s i)+IntKind.i64.wrap (chr s i))),eI ((i+1:Nat):Int)]=_
    rw [hc];rfl
   ·obtain rfl:i=min s.size 8:=by omega
    conv=>whnf
    exact ⟨rfl,rfl⟩
  ·obtain rfl:i=min s.size 8:=by omega
   conv=>whnf
   exact ⟨rfl,rfl⟩
def B5Y (r:H8):Bool:=decide ((r.items.length:Int)<60)&&decide ((r.promos.length:Int)<30)&&decide ((r.tax.zones.length:Int)<30)&&decide ((r.policy.order.length:Int)<30)&&decide ((r.policy.credit.length:Int)<30)
theorem C6R (r:H8) (st:St):S P 21 [G2 r] st fun v st'=>v=.bool (B5Y r)∧st'=st:=by
 refine SyW [1] Tryz.func21 ?_
 unfold B5Y
 repeat' ((conv=>whnf);first | (refine B9 (fun h=>?_) (fun h=>?_)<;>rw [h]))
 all_goals (conv=>whnf)
 all_goals exact ⟨by simp only [Bool.true_and,Bool.false_and];rfl,rfl⟩
def A5w (l:List D6) (most:Nat) (kinds:Int) (name:Int→D6) (out:List D6) (k:Nat):List D6 :=
 if (decide (out.length<most)&&(l.take 4).any fun s=>C7 (A2W s) kinds==k)=true then out++[name k] else out
def R4 (l:List D6) (most:Nat) (kinds:Int) (name:Int→D6) (k:Nat):List D6:=(List.range k).foldl (A5w l most kinds name) []
theorem A5x (l:List D6) (most:Nat) (kinds:Int) (name:Int→D6) (k:Nat):R4 l most kinds name (k+1)=A5w l most kinds name (R4 l most kinds name k) k:=by
 unfold R4;rw [List.range_succ,List.foldl_append];rfl
theorem B6R (l:List D6) (most:Nat) (kinds:Int) (name:Int→D6) (k:Nat):(R4 l most kinds name k).length≤k:=by
 induction k with
 | zero=>exact Nat.le_refl _
 | succ k ih =>
  rw [A5x];unfold A5w
  split
  ·rw [List.length_append];show _+1≤_;omega
  ·omega
theorem B6S (l:List D6) (most kinds:Nat) (name:Int→D6) (g:FuncId) (hk:0<kinds) (hk2:kinds≤100) (hg:∀ (n:Int) (st:St),S P g [eI n] st fun v st'=>v=eS (name n)∧st'=st) (st:St) :
  S P 70 [D2 l,eI most,eI kinds,.fn (.func g) [] []] st fun v st'=>v=D2 (R4 l most kinds name kinds)∧st'=st:=by
 refine A1s (ty:=9) ?_
 refine G0 [] Tryz.func70 ?_
 refine lp kinds [0,1,2,3,9,10] (fun k vs s=>∃ sv,vs=[D2 l,eI most,eI kinds,.fn (.func g) [] [],sv,eI k]∧F3 9 1 eS (R4 l most kinds name k) st sv s) ?_ ?_
 ·conv=>whnf
  exact ⟨.emp,rfl,F3.start _ _ _ _⟩
 ·rintro k vs s hk1 ⟨sv,rfl,hc⟩
  conv=>whnf
  cases hd:decide ((k:Int)<(kinds:Int))
  ·obtain rfl:=C6 hd hk1
   conv=>whnf
   exact hc
  ·have hk':=E4 hd
   have hlen:=B6R l most kinds name k
   have hS:=A5x l most kinds name k
   unfold A5w at hS;conv=>whnf
   refine lp (min l.length 4) [0,1,2,3,9,10,11] (fun i vs t=>(∀ j,j<i→(C7 (A2W (l.getD j default)) kinds==k)=false)∧vs=[D2 l,eI most,eI kinds,.fn (.func g) [] [],sv,eI k,eI i]∧t=s) ?_ ?_
   ·conv=>whnf
    exact ⟨fun j hj=>absurd hj (by omega),rfl,rfl⟩
   ·rintro i vs t hi ⟨hok,rfl,rfl⟩
    have hstop:i=min l.length 4→((l.take 4).any fun s=>C7 (A2W s) kinds==k)=false:=fun e=>by
     refine List.any_eq_false.2 fun x hx=>?_
     obtain ⟨j,hj,rfl⟩:=E3 hx
     rw [List.length_take] at hj
     rw [show (l.take 4).getD j default=l.getD j default by rw [List.getD_eq_getElem?_getD,List.getD_eq_getElem?_getD,List.getElem?_take_of_lt (by omega)],hok j (by omega)]
     simp
    have hsv:(sv=.emp∧(R4 l most kinds name k).length=0)∨∃ b,sv=.own 1 b 0 (R4 l most kinds name k).length:=by
     rcases hc with ⟨h0,h1,_⟩ | ⟨_,b,_,_,h1,_⟩
     ·exact .inl ⟨h1,h0⟩
     ·exact .inr ⟨b,h1⟩
    have hrun:∀ {t':St} {sv':AV},F3 9 1 eS (R4 l most kinds name (k+1)) st sv' t'→∃ sv,[D2 l,eI most,eI kinds,.fn (.func g) [] [],sv',eI (IntKind.i64.wrap ((k:Int)+1))]=[D2 l,eI most,eI kinds,.fn (.func g) [] [],sv,eI ((k+1:Nat):Int)]∧F3 9 1 eS (R4 l most kinds name (k+1)) st sv t':=fun {t' sv'} h=>⟨sv',by rw [B8 (by omega)],h⟩
    conv=>whnf
    refine B9 (fun h1=>?_) (fun h1=>?_)<;>rw [h1]<;>simp only [decide_eq_true_eq,decide_eq_false_iff_not] at h1
    ·conv=>whnf
     refine B9 (fun h2=>?_) (fun h2=>?_)<;>rw [h2]<;>simp only [decide_eq_true_eq,decide_eq_false_iff_not] at h2
     ·have hi':i<min l.length 4:=by omega
      rcases hsv with ⟨rfl,hl0⟩ | ⟨b,rfl⟩
      all_goals
       conv=>whnf
       refine B9 (fun h3=>?_) (fun h3=>?_)<;>rw [h3]<;>simp only [decide_eq_true_eq,decide_eq_false_iff_not] at h3
       ·conv=>whnf
        refine E1 ?_
        refine I2 (B0q _ _) ?_
        refine I2 (A1f _ (kinds:Int) (by omega) (by omega) _) ?_
        cases h4:(C7 (A2W (l.getD (i:Int).toNat default)) (kinds:Int)==(k:Int))
        ·conv=>whnf
         refine G7 ?_
         exact nx hi' ⟨K0 hok h4,by rw [B8 (by omega)],rfl⟩
        ·have hm:(decide ((R4 l most kinds name k).length<most)&&(l.take 4).any fun s=>C7 (A2W s) kinds==k)=true:=by
          rw [Bool.and_eq_true,decide_eq_true_eq,List.any_eq_true]
          refine ⟨by omega,l.getD (i:Int).toNat default,?_,h4⟩
          rw [show l.getD (i:Int).toNat default=(l.take 4).getD i default by rw [List.getD_eq_getElem?_getD,List.getD_eq_getElem?_getD,List.getElem?_take_of_lt (by omega)];rfl]
          exact B3 (by rw [List.length_take];omega)
         rw [if_pos hm] at hS;conv=>whnf
         refine I2 (hg _ _) ?_
         refine F3.app (q:=r9) rfl rfl rfl rfl rfl (by rfl) (by show ((R4 l most kinds name k).length+1) * 16≤140737488355328;omega) hc (fun sv' t' hc'=>?_);conv=>whnf
         refine G7 ?_
         exact nx hk' (hrun (by rw [hS];exact hc'))
       ·rw [if_neg (by rw [decide_eq_false (by omega)];simp)] at hS;conv=>whnf
        refine G7 ?_
        exact nx hk' (hrun (by rw [hS];exact hc))
     ·rw [if_neg (by rw [hstop (by omega)];simp)] at hS;conv=>whnf
      refine G7 ?_
      exact nx hk' (hrun (by rw [hS];exact hc))
    ·rw [if_neg (by rw [hstop (by omega)];simp)] at hS;conv=>whnf
     refine G7 ?_
     exact nx hk' (hrun (by rw [hS];exact hc))
def P5 (s:T8):T8:=⟨R4 s.skus 3 8 A1n 8,R4 s.cats 2 3 A4H 3⟩
theorem B4S (s:T8) (st:St):S P 232 [A3f s] st fun v st'=>v=A3f (P5 s)∧st'=st:=by
 have h1:=fun st=>B6S s.skus 3 8 A1n 72 (by decide) (by decide) C2m st
 have h2:=fun st=>B6S s.cats 2 3 A4H 113 (by decide) (by decide) A4e st
 unfold P5
 generalize R4 s.skus 3 8 A1n 8=a at h1 ⊢
 generalize R4 s.cats 2 3 A4H 3=b at h2 ⊢
 refine A2a ?_
 refine G0 [1] Tryz.func232 ?_
 intro b2 hb;conv=>whnf
 refine ⟨[7],[],List.range 8,by kernel_rfl,?_⟩;conv=>whnf
 refine X9 (h1 _) ?_
 refine X9 (h2 _) ?_
 refine N1 (A0 ..) rfl ?_
 refine F2 (A0 ..) (A5 ..) ?_
 exact ⟨rfl,((D8.refl st).upd hb).over hb⟩
def A0e (l:List D6):List D6:=R4 l 3 3 A4x 3
theorem B4G (l:List D6) (st:St):S P 16 [D2 l] st fun v st'=>v=D2 (A0e l)∧st'=st:=by
 refine G0 [] Tryz.func16 ?_
 refine I2 (B6S l 3 3 A4x 71 (by decide) (by decide) C0H _) ?_
 exact ⟨rfl,rfl⟩
def A1j (x:G1):G1:=⟨A1n (A2W x.sku),C7 x.qty 10,C7 x.price 4000⟩
def U6 (l:List G1):List G1:=(l.take 8).map A1j
theorem B3i (l:List G1) (st:St):S P 17 [B1 3 G4 l] st fun v st'=>F3 51 3 G4 (U6 l) st v st':=by
 refine G0 [] Tryz.func17 ?_
 refine lp (min l.length 8) [0,3,4] (fun i vs s=>∃ sv,vs=[B1 3 G4 l,sv,eI i]∧F3 51 3 G4 ((l.take i).map A1j) st sv s) ?_ ?_
 ·conv=>whnf
  exact ⟨.emp,rfl,F3.start _ _ _ _⟩
 ·rintro i vs s hi ⟨sv,rfl,hc⟩
  have hfin:i=min l.length 8→F3 51 3 G4 (U6 l) st sv s:=fun e=>by
   have:U6 l=(l.take i).map A1j:=by
    unfold U6
    rcases Nat.le_total l.length 8 with h | h
    ·rw [show i=l.length by omega,List.take_length,List.take_of_length_le h]
    ·rw [show i=8 by omega]
   rw [this];exact hc
  conv=>whnf
  refine B9 (fun h1=>?_) (fun h1=>?_)<;>rw [h1]<;>simp only [decide_eq_true_eq,decide_eq_false_iff_not] at h1
  ·conv=>whnf
   refine B9 (fun h2=>?_) (fun h2=>?_)<;>rw [h2]<;>simp only [decide_eq_true_eq,decide_eq_false_iff_not] at h2
   ·have hi':i<min l.length 8:=by omega
    conv=>whnf
    refine ⟨[21,22],[],List.range 24,by kernel_rfl,?_⟩;conv=>whnf
    refine E1 ?_
    refine X9 (B0q _ _) ?_
    refine X9 (C2m _ _) ?_
    refine E1 ?_
    refine X9 (A1f _ 10 (by decide) (by decide) _) ?_
    refine E1 ?_
    refine X9 (O2 _ 4000 (by decide) (by decide) _) ?_
    refine F3.app (y:=A1j (l.getD (i:Int).toNat default)) (q:=r51) rfl rfl rfl rfl rfl (by rfl) (by show (((l.take i).map A1j).length+1) * 32≤140737488355328;rw [List.length_map,List.length_take];omega) hc (fun sv' t' hc'=>?_);conv=>whnf
    refine G7 ?_
    refine nx hi' ⟨sv',by rw [B8 (by omega)],?_⟩
    rw [J0 (by omega),List.map_append];exact hc'
   ·conv=>whnf
    exact hfin (by omega)
  ·conv=>whnf
   exact hfin (by omega)
theorem B4K (l:List G1) (st:St):S P 17 [B1 3 G4 l] st fun v st'=>v=B1 3 G4 (U6 l)∧st'=st:=A1s (B3i l st)
def P3 (l:List Ab.Item) (k:Nat):Ab.Item :=
 if k<l.length then ⟨A1n k,A4H (A2W (l.getD k default).cat),C7 (l.getD k default).price 4000,(l.getD k default).final&&k==7⟩ else ⟨A1n k,A4H k,100+37 * k,false⟩
def O6 (l:List Ab.Item):List Ab.Item:=(List.range 8).map (P3 l)
theorem A5h {α : Type} (f:Nat→α) (k:Nat):(List.range (k+1)).map f=(List.range k).map f++[f k]:=by rw [List.range_succ,List.map_append];rfl
theorem B4I (l:List Ab.Item) (st:St):S P 38 [B1 4 F1 l] st fun v st'=>v=B1 4 F1 (O6 l)∧st'=st:=by
 refine S.post (post:=fun v st'=>∃ base,D8 st base∧F3 64 4 F1 (O6 l) base v st') ?_ (fun v st' ⟨base,hs,hc⟩=>⟨_,st,⟨rfl,rfl⟩,hc.shift.trans (hs.shift _)⟩)
 refine G0 [] Tryz.func38 ?_
 refine lp 8 [0,3,4] (fun k vs s=>∃ sv base,vs=[B1 4 F1 l,sv,eI k]∧D8 st base∧F3 64 4 F1 ((List.range k).map (P3 l)) base sv s) ?_ ?_
 ·conv=>whnf
  exact ⟨.emp,st,rfl,D8.refl _,F3.start _ _ _ _⟩
 ·rintro k vs s hk ⟨sv,base,rfl,hsup,hc⟩
  conv=>whnf
  refine B9 (fun h1=>?_) (fun h1=>?_)<;>rw [h1]<;>simp only [decide_eq_true_eq,decide_eq_false_iff_not] at h1
  ·have hk':k<8:=by omega
   have hnext:=A5h (P3 l) k
   have hlen:((List.range k).map (P3 l)).length=k:=by rw [List.length_map,List.length_range]
   have w1:IntKind.i64.wrap (100+IntKind.i64.wrap (37 * (k:Int)))=100+37 * (k:Int):=by
    rw [A9 (x:=37 * (k:Int)) (by omega) (by omega),A9 (by omega) (by omega)]
   conv=>whnf
   refine I2 (C2m _ _) ?_
   refine I2 (A4e _ _) ?_
   intro b hb;conv=>whnf
   refine stU (A0 ..) rfl ?_
   rw [B7]
   have hbb:base b=none:=N3.off hc hb
   have hc1:=fun y=>N3.under (y:=y) hc hb
   have hend:∀ {t:St} {Y:R9} {x:AV} {g:Nat→AV} {K:KK},t=upd s b Y→Z2 4 t x=some (1,g)→g 0=F1 (P3 l k)→(∀ sv' t',F3 64 4 F1 ((List.range (k+1)).map (P3 l)) (upd base b Y) sv' t'→K sv' t')→A5E T 22 sv x t K:=fun {t Y x g K} e hs hg hk=>by
    subst e
    refine F3.app (q:=r64) rfl rfl rfl rfl hs hg (by rw [hlen];show (k+1) * 48≤140737488355328;omega) (hc1 Y) (fun sv' t' hc'=>hk sv' t' ?_)
    rw [hnext];exact hc'
   conv=>whnf
   refine B9 (fun h2=>?_) (fun h2=>?_)<;>rw [h2]<;>simp only [decide_eq_true_eq,decide_eq_false_iff_not] at h2
   ·have hi:k<l.length:=by omega
    have hp:P3 l k=⟨A1n k,A4H (A2W (l.getD (k:Int).toNat default).cat),C7 (l.getD (k:Int).toNat default).price 4000,(l.getD (k:Int).toNat default).final&&k==7⟩:=by unfold P3;rw [if_pos hi];rfl
    conv=>whnf
    refine ⟨[23,25,27],[],List.range 28,by kernel_rfl,?_⟩;conv=>whnf
    refine E1 ?_
    refine X9 (B0q _ _) ?_
    refine X9 (A4e _ _) ?_
    refine E1 ?_
    refine X9 (O2 _ 4000 (by decide) (by decide) _) ?_
    refine E1 ?_
    refine B9 (fun h3=>?_) (fun h3=>?_)<;>rw [h3] at hp ⊢
    all_goals
     conv=>whnf
     refine stU (A0 ..) (A5 ..) ?_
     rw [B7];conv=>whnf
     refine stU (A0 ..) (A5 ..) ?_
     rw [B7];conv=>whnf
     refine stU (A0 ..) (A5 ..) ?_
     rw [B7];conv=>whnf
     refine F2 (A0 ..) (A5 ..) ?_
     refine hend rfl rfl (by rw [hp];first | rfl | (have e7:((k:Int)==7)=(k==7):=by rw [Bool.eq_iff_iff,beq_iff_eq,beq_iff_eq];omega
                                                    rw [Bool.true_and,←e7];rfl)) (fun sv' t' hc'=>?_)
     conv=>whnf
     refine G7 ?_
     exact nx hk' ⟨sv',_,by rw [B8 (by omega)],hsup.upd hbb,hc'⟩
   ·have hi:¬ k<l.length:=by omega
    have hp:P3 l k=⟨A1n k,A4H k,100+37 * k,false⟩:=by unfold P3;rw [if_neg hi]
    conv=>whnf
    refine F2 (A0 ..) (A5 ..) ?_
    refine hend rfl rfl (by rw [hp];show AV.agg _=_;rw [w1];rfl) (fun sv' t' hc'=>?_);conv=>whnf
    refine G7 ?_
    exact nx hk' ⟨sv',_,by rw [B8 (by omega)],hsup.upd hbb,hc'⟩
  ·obtain rfl:k=8:=by omega
   conv=>whnf
   exact ⟨base,hsup,hc⟩
def A5d (l:List Int) (out:List Int) (i:Nat):List Int:=if (out.any fun y=>y==1+C7 (gI l i) 5)=true then out else out++[1+C7 (gI l i) 5]
def P7 (l:List Int) (n:Nat):List Int:=(List.range n).foldl (A5d l) []
theorem A5e (l:List Int) (n:Nat):P7 l (n+1)=A5d l (P7 l n) n:=by unfold P7;rw [List.range_succ,List.foldl_append];rfl
theorem A9Y (l:List Int) (n:Nat):(P7 l n).length≤n:=by
 induction n with
 | zero=>exact Nat.le_refl _
 | succ n ih =>
  rw [A5e];unfold A5d
  split
  ·omega
  ·rw [List.length_append];show _+1≤_;omega
def N6 (l:List Int):List Int:=P7 l (min l.length 6)
theorem B1s (l:List Int) (k:Int) (j:Nat) (hj:j<l.length):((l.take (j+1)).any fun y=>y==k)=((l.take j).any (fun y=>y==k)||(gI l j==k)):=by
 rw [J0 hj,List.any_append];simp
theorem A8Q (l:List Int) (st:St):S P 69 [A8 l] st fun v st'=>v=A8 (N6 l)∧st'=st:=by
 refine A1s (ty:=3) ?_
 refine G0 [] Tryz.func69 ?_
 refine lp (min l.length 6) [0,3,4] (fun i vs s=>∃ sv,vs=[A8 l,sv,eI i]∧F3 3 1 eI (P7 l i) st sv s) ?_ ?_
 ·conv=>whnf
  exact ⟨.emp,rfl,F3.start _ _ _ _⟩
 ·rintro i vs s hi ⟨sv,rfl,hc⟩
  have hlen:=A9Y l i
  have hfin:i=min l.length 6→F3 3 1 eI (N6 l) st sv s:=fun e=>by unfold N6;rw [←e];exact hc
  conv=>whnf
  refine B9 (fun h1=>?_) (fun h1=>?_)<;>rw [h1]<;>simp only [decide_eq_true_eq,decide_eq_false_iff_not] at h1
  ·conv=>whnf
   refine B9 (fun h2=>?_) (fun h2=>?_)<;>rw [h2]<;>simp only [decide_eq_true_eq,decide_eq_false_iff_not] at h2
   ·have hi':i<min l.length 6:=by omega
    have hK:=A5e l i
    unfold A5d at hK
    have hm:=E9 (gI l (i:Int).toNat) (n:=5) (by decide)
    have hw:IntKind.i64.wrap (1+C7 (gI l (i:Int).toNat) 5)=1+C7 (gI l i) 5:=A9 (by omega) (by omega)
    conv=>whnf
    refine E1 ?_
    refine I2 (A1f _ 5 (by decide) (by decide) _) ?_
    rw [hw]
    generalize hkk:1+C7 (gI l i) 5=k at hK
    have hcases:(sv=.emp∧P7 l i=[])∨∃ b g,sv=.own 1 b 0 (P7 l i).length∧s b=some ⟨3,1,(P7 l i).length,g⟩∧∀ j,j<(P7 l i).length→g j=eI (gI (P7 l i) j):=by
     rcases hc with ⟨h0,h3,_⟩ | ⟨_,b,g,_,h3,h4,h5⟩
     ·exact .inl ⟨h3,List.eq_nil_of_length_eq_zero h0⟩
     ·exact .inr ⟨b,g,h3,by rw [h4];exact A0 ..,h5⟩
    refine lp (P7 l i).length [0,3,4,5,6,7] (fun j vs t=>vs=[A8 l,sv,eI i,eI k,eB (((P7 l i).take j).any fun y=>y==k),eI j]∧t=s) ?_ ?_
    ·conv=>whnf
     exact ⟨rfl,rfl⟩
    ·rintro j vs t hj ⟨rfl,rfl⟩
     rcases hcases with ⟨rfl,hnil⟩ | ⟨b,g,rfl,hb,hg⟩
     ·have hj0:j=0:=by rw [hnil] at hj;exact Nat.le_zero.1 hj
      subst hj0
      have hK2:P7 l (i+1)=P7 l i++[k]:=by rw [hK,if_neg (by rw [hnil];simp)]
      conv=>whnf
      refine F3.app (q:=r3) rfl rfl rfl rfl rfl (by rfl) (by show ((P7 l i).length+1) * 8≤140737488355328;omega) hc (fun sv' t' hc'=>?_);conv=>whnf
      refine G7 ?_
      exact nx hi' ⟨sv',by rw [B8 (by omega)],by rw [hK2];exact hc'⟩
     ·conv=>whnf
      cases h3:decide ((j:Int)<((P7 l i).length:Int))
      ·obtain rfl:=C6 h3 hj
       conv=>whnf
       rw [List.take_length]
       cases h4:(P7 l i).any fun y=>y==k
       ·rw [if_neg (by rw [h4];simp)] at hK;conv=>whnf
        refine F3.app (q:=r3) rfl rfl rfl rfl rfl (by rfl) (by show ((P7 l i).length+1) * 8≤140737488355328;omega) hc (fun sv' t' hc'=>?_);conv=>whnf
        refine G7 ?_
        exact nx hi' ⟨sv',by rw [B8 (by omega)],by rw [hK];exact hc'⟩
       ·rw [if_pos h4] at hK;conv=>whnf
        refine G7 ?_
        exact nx hi' ⟨_,by rw [B8 (by omega)],by rw [hK];exact hc⟩
      ·have hj':=E4 h3
       have hsucc:=B1s (P7 l i) k j hj'
       conv=>whnf
       cases h4:((P7 l i).take j).any fun y=>y==k
       ·rw [h4,Bool.false_or] at hsucc;conv=>whnf
        refine E1 ?_
        refine ldV hb rfl (by omega) (v:=eI (gI (P7 l i) (j:Int).toNat)) (by rw [Nat.zero_add];exact hg _ (by omega)) ?_;conv=>whnf
        refine G7 ?_
        refine nx hj' ⟨?_,rfl⟩
        rw [B8 (by omega),hsucc];rfl
       ·rw [h4,Bool.true_or] at hsucc;conv=>whnf
        refine G7 ?_
        refine nx hj' ⟨?_,rfl⟩
        rw [B8 (by omega),hsucc]
   ·conv=>whnf
    exact hfin (by omega)
  ·conv=>whnf
   exact hfin (by omega)
def B0v (x:A0q) (least:Int):A0q:=⟨least,C7 x.rate 4000,1+C7 x.amount 300⟩
def P6 (l:List A0q) (step:Int):Nat→List A0q×Int
 | 0=>([],0)
 | i+1=>((P6 l step i).1++[B0v (l.getD i default) ((P6 l step i).2+C7 (l.getD i default).least step)],(P6 l step i).2+C7 (l.getD i default).least step+1)
theorem A6R (l:List A0q) (step:Int) (i:Nat):(P6 l step i).1.length=i:=by
 induction i with
 | zero=>rfl
 | succ i ih=>show (_++[_]).length=_;rw [List.length_append,ih];rfl
theorem A7R (l:List A0q) {step:Int} (h:0<step) (i:Nat):0≤(P6 l step i).2∧(P6 l step i).2≤i * step:=by
 induction i with
 | zero=>exact ⟨Int.le_refl _,by show (0:Int)≤((0:Nat):Int) * step;rw [Int.natCast_zero,Int.zero_mul];omega⟩
 | succ i ih =>
  have hm:=E9 (l.getD i default).least h
  show 0≤(P6 l step i).2+C7 (l.getD i default).least step+1∧(P6 l step i).2+C7 (l.getD i default).least step+1≤_
  rw [show ((i+1:Nat):Int) * step=i * step+step by rw [Int.natCast_add,Int.add_mul];simp]
  omega
def O8 (l:List A0q) (step:Int):List A0q:=if l.length=0 then [⟨Int.tdiv step 2,1000,0⟩] else (P6 l step (min l.length 3)).1
theorem A8R (l:List A0q) (step:Int) (h0:0<step) (h1:step≤5000) (st:St):S P 233 [B1 3 Q5 l,eI step] st fun v st'=>v=B1 3 Q5 (O8 l step)∧st'=st:=by
 refine A1s (ty:=250) ?_
 refine G0 [] Tryz.func233 ?_
 refine lp (min l.length 3) [0,1,5,6,7] (fun i vs s=>∃ sv,vs=[B1 3 Q5 l,eI step,sv,eI (P6 l step i).2,eI i]∧F3 250 3 Q5 (P6 l step i).1 st sv s) ?_ ?_
 ·conv=>whnf
  exact ⟨.emp,rfl,F3.start _ _ _ _⟩
 ·rintro i vs s hi ⟨sv,rfl,hc⟩
  have hlen:=A6R l step i
  have hle:=A7R l h0 i
  have hip:(i:Int) * step≤3 * 5000:=Int.mul_le_mul (by omega) h1 (by omega) (by omega)
  have hsv:(i=0∧sv=.emp)∨(0<i∧∃ b,sv=.own 3 b 0 i):=by
   rcases hc with ⟨h2,h3,_⟩ | ⟨h2,b,_,_,h3,_⟩
   ·exact .inl ⟨by omega,h3⟩
   ·exact .inr ⟨by omega,b,by rw [h3,hlen]⟩
  have hw2:IntKind.i64.wrap (Int.tdiv step 2)=Int.tdiv step 2:=by
   rw [Int.tdiv_eq_ediv_of_nonneg (by omega)]
   exact A9 (by omega) (by omega)
  conv=>whnf
  refine B9 (fun h2=>?_) (fun h2=>?_)<;>rw [h2]<;>simp only [decide_eq_true_eq,decide_eq_false_iff_not] at h2
  case' refine_1 =>
   conv=>whnf
   refine B9 (fun h3=>?_) (fun h3=>?_)<;>rw [h3]<;>simp only [decide_eq_true_eq,decide_eq_false_iff_not] at h3
  case refine_1.refine_1 =>
   have hi':i<min l.length 3:=by omega
   have hm:=E9 (l.getD (i:Int).toNat default).least h0
   have hm2:=E9 (l.getD (i:Int).toNat default).amount (n:=300) (by decide)
   have e1:IntKind.i64.wrap ((P6 l step i).2+C7 (l.getD (i:Int).toNat default).least step)=(P6 l step i).2+C7 (l.getD (i:Int).toNat default).least step:=A9 (by omega) (by omega)
   have e2:IntKind.i64.wrap (1+C7 (l.getD (i:Int).toNat default).amount 300)=1+C7 (l.getD (i:Int).toNat default).amount 300:=A9 (by omega) (by omega)
   have e3:IntKind.i64.wrap ((P6 l step i).2+C7 (l.getD (i:Int).toNat default).least step+1)=(P6 l step i).2+C7 (l.getD (i:Int).toNat default).least step+1:=A9 (by omega) (by omega)
   conv=>whnf
   refine E1 ?_
   refine I2 (O2 _ step h0 (by omega) _) ?_
   rw [e1]
   refine ⟨[16,17],[],List.range 19,by kernel_rfl,?_⟩;conv=>whnf
   refine E1 ?_
   refine X9 (O2 _ 4000 (by decide) (by decide) _) ?_
   refine E1 ?_
   refine X9 (O2 _ 300 (by decide) (by decide) _) ?_
   rw [e2]
   refine F3.app (y:=B0v (l.getD (i:Int).toNat default) ((P6 l step i).2+C7 (l.getD (i:Int).toNat default).least step)) (q:=C4i) rfl rfl rfl rfl rfl (by rfl) (by show ((P6 l step i).1.length+1) * 24≤140737488355328;omega) hc (fun sv' t' hc'=>?_);conv=>whnf
   rw [e3]
   refine G7 ?_
   exact nx hi' ⟨sv',by rw [B8 (by omega)];rfl,hc'⟩
  all_goals
   have hie:i=min l.length 3:=by omega
   conv=>whnf
   rcases hsv with ⟨rfl,rfl⟩ | ⟨hp,b,rfl⟩
   ·have hl0:l.length=0:=by omega
    have hT:O8 l step=[⟨Int.tdiv step 2,1000,0⟩]:=by unfold O8;rw [if_pos hl0]
    rw [hT];conv=>whnf
    refine F3.app (y:=⟨Int.tdiv step 2,1000,0⟩) (q:=C4i) rfl rfl rfl rfl rfl (by show AV.agg [eI (IntKind.i64.wrap (Int.tdiv step 2)),eI 1000,eI 0]=_;rw [hw2];rfl) (by show (0+1) * 24≤140737488355328;omega) hc (fun sv' t' hc'=>?_);conv=>whnf
    exact hc'
   ·have hT:O8 l step=(P6 l step i).1:=by unfold O8;rw [if_neg (by omega),hie]
    rw [hT];conv=>whnf
    rw [show ((i:Int)==0)=false by rw [beq_eq_false_iff_ne];omega];conv=>whnf
    exact hc
theorem B5p (l:List D6) (most:Nat) (kinds:Int) (name:Int→D6) (k:Nat):∃ ks:List Nat,R4 l most kinds name k=ks.map (fun x:Nat=>name x)∧ks.Pairwise (·<·)∧(∀ x∈ks,x<k)∧ks.length≤most:=by
 induction k with
 | zero=>exact ⟨[],rfl,.nil,⟨fun x hx=>absurd hx List.not_mem_nil,Nat.zero_le _⟩⟩
 | succ k ih =>
  obtain ⟨ks,h1,h2,h3,h4⟩:=ih
  rw [A5x];unfold A5w
  split
  ·rename_i hc
   rw [Bool.and_eq_true,decide_eq_true_eq,h1,List.length_map] at hc
   refine ⟨ks++[k],by rw [h1,List.map_append];rfl,List.pairwise_append.2 ⟨h2,List.pairwise_singleton _ _,fun a ha b hb=>by rw [List.mem_singleton] at hb;subst hb;exact h3 a ha⟩,fun x hx=>?_,by rw [List.length_append];show ks.length+1≤most;omega⟩
   rcases List.mem_append.1 hx with h | h
   ·have:=h3 x h;omega
   ·rw [List.mem_singleton] at h;omega
  ·exact ⟨ks,h1,h2,fun x hx=>by have:=h3 x hx;omega,h4⟩
theorem A6F {l:List D6} {most:Nat} {kinds:Int} {name:Int→D6} {k:Nat} (hn:∀ x:Nat,x<k→F9 (name x)=true) (hr:∀ x y:Nat,x<y→y<k→slt (name x) (name y)=true):A0n (R4 l most kinds name k)=true∧(R4 l most kinds name k).length≤most∧∀ s∈R4 l most kinds name k,s.size≤12:=by
 obtain ⟨ks,h1,h2,h3,h4⟩:=B5p l most kinds name k
 rw [h1]
 have hall:∀ s∈ks.map (fun x:Nat=>name x),F9 s=true:=fun s hs=>by
  obtain ⟨x,hx,rfl⟩:=List.mem_map.1 hs;exact hn x (h3 x hx)
 refine ⟨?_,by rw [List.length_map];exact h4,fun s hs=>?_⟩
 ·unfold A0n
  rw [Bool.and_eq_true,Bool.not_eq_true',List.any_eq_false]
  refine ⟨?_,fun s hs=>by rw [hall s hs];simp⟩
  unfold Z0
  rw [List.all_eq_true]
  intro j hj
  have hj:=List.mem_range.1 hj
  rw [List.length_map] at hj
  unfold O1
  rw [Bool.or_eq_true,beq_iff_eq]
  by_cases e:j=0
  ·exact .inl e
  ·refine .inr ?_
   have g:∀ i,i<ks.length→(ks.map (fun x:Nat=>name x)).getD i default=name (ks.getD i 0:Nat):=fun i hi=>by
    rw [List.getD_eq_getElem?_getD,List.getElem?_map,List.getElem?_eq_getElem hi,List.getD_eq_getElem?_getD,List.getElem?_eq_getElem hi];rfl
   rw [g _ (by omega),g _ hj]
   have gm:∀ i,i<ks.length→ks.getD i 0=ks[i]!:=fun i hi=>by rw [List.getD_eq_getElem?_getD,List.getElem?_eq_getElem hi,getElem!_pos ks i hi];rfl
   refine hr _ _ ?_ (h3 _ ?_)
   ·rw [gm _ (by omega),gm _ hj,getElem!_pos ks _ (by omega),getElem!_pos ks _ hj]
    exact List.pairwise_iff_getElem.1 h2 _ _ (by omega) hj (by omega)
   ·rw [gm _ hj,getElem!_pos ks _ hj];exact List.getElem_mem _
 ·have:=hall s hs
  unfold F9 at this
  simp only [Bool.and_eq_true,decide_eq_true_eq] at this
  exact this.1.2
theorem B9x:((List.range 8).all fun x=>F9 (A1n (x:Nat)))=true:=by kernel_rfl
theorem C2n:((List.range 8).all fun y=>(List.range y).all fun x=>slt (A1n (x:Nat)) (A1n (y:Nat)))=true:=by kernel_rfl
theorem B8q:((List.range 3).all fun x=>F9 (A4H (x:Nat)))=true:=by kernel_rfl
theorem C0C:((List.range 3).all fun y=>(List.range y).all fun x=>slt (A4H (x:Nat)) (A4H (y:Nat)))=true:=by kernel_rfl
theorem B5N:((List.range 3).all fun x=>F9 (A4x (x:Nat)))=true:=by kernel_rfl
theorem B8v:((List.range 3).all fun y=>(List.range y).all fun x=>slt (A4x (x:Nat)) (A4x (y:Nat)))=true:=by kernel_rfl
theorem B3q {name:Int→D6} {k:Nat} (h:((List.range k).all fun y=>(List.range y).all fun x=>slt (name (x:Nat)) (name (y:Nat)))=true) (x y:Nat) (hxy:x<y) (hy:y<k):slt (name x) (name y)=true :=
 List.all_eq_true.1 (List.all_eq_true.1 h y (List.mem_range.2 hy)) x (List.mem_range.2 hxy)
theorem B2Y {name:Int→D6} {k:Nat} (h:((List.range k).all fun x=>F9 (name (x:Nat)))=true) (x:Nat) (hx:x<k):F9 (name x)=true:=List.all_eq_true.1 h x (List.mem_range.2 hx)
theorem A2i (s:T8):Z1 (P5 s)=true∧A0X (P5 s):=by
 obtain ⟨a1,a2,a3⟩:=A6F (l:=s.skus) (most:=3) (kinds:=8) (name:=A1n) (k:=8) (B2Y B9x) (B3q C2n)
 obtain ⟨b1,b2,b3⟩:=A6F (l:=s.cats) (most:=2) (kinds:=3) (name:=A4H) (k:=3) (B2Y B8q) (B3q C0C)
 unfold P5
 generalize R4 s.skus 3 8 A1n 8=A at a1 a2 a3 ⊢
 generalize R4 s.cats 2 3 A4H 3=B at b1 b2 b3 ⊢
 refine ⟨?_,?_⟩
 ·unfold Z1
  rw [a1,b1,decide_eq_true (show A.length≤20 by omega),decide_eq_true (show B.length≤20 by omega)];rfl
 ·exact ⟨by show A.length≤_;omega,by show B.length≤_;omega,fun x hx=>by have:=a3 x hx;show x.size≤_;omega,fun x hx=>by have:=b3 x hx;show x.size≤_;omega⟩
theorem B3h (l:List D6):A1a (A0e l)=true∧(A0e l).length≤3∧∀ s∈A0e l,s.size≤12:=by
 obtain ⟨a1,a2,a3⟩:=A6F (l:=l) (most:=3) (kinds:=3) (name:=A4x) (k:=3) (B2Y B5N) (B3q B8v)
 unfold A0e
 generalize R4 l 3 3 A4x 3=A at a1 a2 a3 ⊢
 refine ⟨?_,a2,a3⟩
 unfold A0n at a1
 rw [Bool.and_eq_true] at a1
 unfold A1a
 rw [a1.1,a1.2,decide_eq_true (by omega)];rfl
theorem C6Y (n:Int):C7 n 8=0∨C7 n 8=1∨C7 n 8=2∨C7 n 8=3∨C7 n 8=4∨C7 n 8=5∨C7 n 8=6∨C7 n 8=7:=by
 have:=E9 n (n:=8) (by decide);omega
theorem C2l (k:Nat) (h:k<8):A1n k=W7 (97+k):=by
 unfold A1n C7;congr 2;omega
theorem B2m (l:List Ab.Item):(O6 l).map Ab.Item.sku=[W7 97,W7 98,W7 99,W7 100,W7 101,W7 102,W7 103,W7 104]:=by
 unfold O6
 rw [List.map_map]
 have e:∀ k,k<8→(Ab.Item.sku ∘ P3 l) k=W7 (97+(k:Int)):=fun k hk=>by
  rw [←C2l k hk]
  show (P3 l k).sku=_
  unfold P3;split<;>rfl
 have:(List.range 8).map (Ab.Item.sku ∘ P3 l)=(List.range 8).map fun k:Nat=>W7 (97+(k:Int)):=List.map_congr_left fun k hk=>e k (List.mem_range.1 hk)
 rw [this];rfl
theorem A3h (l:List Ab.Item):(O6 l).length=8:=by unfold O6;rw [List.length_map,List.length_range]
theorem B8L (items:List Ab.Item) (s:D6):known items s=(items.map Ab.Item.sku).any fun y=>y.toList==s.toList:=by
 unfold known T9
 rw [A1H,List.any_map];rfl
theorem A9Z (l:List Ab.Item) (n:Int):known (O6 l) (A1n n)=true:=by
 rw [B8L,B2m]
 unfold A1n
 rcases C6Y n with h | h | h | h | h | h | h | h<;>rw [h]<;>kernel_rfl
theorem B4J (x:G1):(0≤(A1j x).qty∧(A1j x).qty≤9)∧0≤(A1j x).price∧(A1j x).price<4000:=by
 have h1:=E9 x.qty (n:=10) (by decide)
 have h2:=E9 x.price (n:=4000) (by decide)
 exact ⟨⟨h1.1,by show C7 x.qty 10≤9;omega⟩,h2.1,h2.2⟩
structure A3p (l:List G1):Prop where
 len:l.length≤8
 line:∀ x∈l,(0≤x.qty∧x.qty≤9)∧0≤x.price∧x.price<4000
 sku:∀ x∈l,∃ n,x.sku=A1n n
theorem B3j (l:List G1):A3p (U6 l):=by
 unfold U6
 refine ⟨by rw [List.length_map,List.length_take];omega,fun x hx=>?_,fun x hx=>?_⟩
 ·obtain ⟨y,_,rfl⟩:=List.mem_map.1 hx;exact B4J y
 ·obtain ⟨y,_,rfl⟩:=List.mem_map.1 hx;exact ⟨A2W y.sku,rfl⟩
theorem A3p.lineC {l:List G1} (h:A3p l) {x:G1} (hx:x∈l):lineC x=true:=by
 have:=h.line x hx
 rw [Z9];omega
theorem B7Y {l:List G1} (h1:∀ x∈l,(0≤x.qty∧x.qty≤9)∧0≤x.price∧x.price<4000):(0≤L2 l∧L2 l≤9 * l.length)∧0≤J9 l∧J9 l≤36000 * l.length:=by
 have:∀ (l:List G1) (a b:Int),(∀ x∈l,(0≤x.qty∧x.qty≤9)∧0≤x.price∧x.price<4000)→(a≤l.foldl (fun s x=>s+x.qty) a∧l.foldl (fun s x=>s+x.qty) a≤a+9 * l.length)∧b≤l.foldl (fun s x=>s+x.qty * x.price) b∧l.foldl (fun s x=>s+x.qty * x.price) b≤b+36000 * l.length:=by
  intro l
  induction l with
  | nil=>intro a b _;simp
  | cons y l ih =>
   intro a b h
   have hy:=h y (List.mem_cons_self ..)
   have h0:0≤y.qty * y.price:=Int.mul_nonneg hy.1.1 hy.2.1
   have h9:y.qty * y.price≤9 * 4000:=Int.mul_le_mul hy.1.2 (by omega) hy.2.1 (by omega)
   have:=ih (a+y.qty) (b+y.qty * y.price) fun x hx=>h x (List.mem_cons_of_mem _ hx)
   rw [List.foldl_cons,List.foldl_cons,List.length_cons]
   omega
 have:=this l 0 0 h1
 unfold L2 J9;omega
theorem B6a {kn:D6→Bool} {l:List G1} (h:∀ x∈l,kn x.sku=true∧lineC x=true):l.find? (J4 kn)=none:=by
 rw [List.find?_eq_none]
 intro x hx
 unfold J4
 rw [(h x hx).1,(h x hx).2];simp
theorem A3p.check {l:List G1} (h:A3p l) {kn:D6→Bool} (hk:∀ n,kn (A1n n)=true):N9 kn l=0:=by
 unfold N9
 have hl:=h.len
 have hs:=B7Y h.line
 rw [if_neg (by omega),B6a fun x hx=>⟨by obtain ⟨n,hn⟩:=h.sku x hx;rw [hn];exact hk n,h.lineC hx⟩]
 show (if _ then (5:Int) else 0)=0
 rw [if_neg]
 rw [decide_eq_false (by omega),decide_eq_false (by omega)];decide
def B6e (n:Int):D6:=(⟨#[103]⟩:D6)++W7 (48+C7 n 2)
def X1 (k:Int):D6:=(⟨#[122]⟩:D6)++W7 (48+k)
def X0 (x:S3):S3:=⟨P5 x.scope,1+C7 x.count 2⟩
def O7 (l:List S3):List S3:=if l.length=0 then [⟨⟨[],[]⟩,2⟩] else (l.take 3).map X0
def A2F (p:B4):Int:=1+C7 (IntKind.i64.wrap (p.kind - 1)) 7
def A1B (p:B4):D6:=if C7 (A2W p.group) 3=1 then B6e p.group.size else ⟨#[]⟩
def A2E (p:B4):D6:=if C7 (A2W p.code) 3=1 then A4x p.code.size else ⟨#[]⟩
def A2r (p:B4):Int:=if C7 p.least 3=1 then C7 p.least 9000 else 0
def O3 (p:B4) (id K:Int):B4 :=
 ⟨idN id,K,C7 p.prio 5,A1B p,A2E p,if K=7 then false else p.closes,if K=4∨K=7 then ⟨[],[]⟩ else P5 p.scope,A2r p,
 if K=1∨K=3∨K=7 then 1+C7 p.rate 10000 else 0,if K=2 then 1+C7 p.amount 900 else if K=4 then C7 p.amount 3000 else 0,
 if K=3 then 1+C7 p.buy 3 else 0,if K=3 then 1+C7 p.get 2 else 0,if K=4 then O7 p.parts else [],if K=5 then O8 p.tiers 5000 else if K=6 then O8 p.tiers 5 else []⟩
def A1C (p:B4) (id:Int):B4:=O3 p id (A2F p)
def B8I (i:Nat):Int:=((i:Int) * 7+3) % 10
def V7 (l:List B4) (i:Nat):B4:=A1C (l.getD i default) (B8I i)
def L8 (l:List B4):List B4:=(List.range (min l.length 6)).map (V7 l)
def A7z (l:List H2) (c:Nat):H2:=⟨A4H c,C7 (l.getD c default).rate 3000⟩
def R8 (l:List H2):List H2:=(List.range (min 3 l.length)).map (A7z l)
def F5 (l:List L3) (k:Nat):L3 :=
 if k<l.length then ⟨X1 k,R8 (l.getD k default).rates,C7 (l.getD k default).rest 3000,C7 (l.getD k default).ship 3000⟩ else ⟨X1 k,[],1000 * k,500 * k⟩
def M0 (t:Tax):Tax:=⟨t.incl,t.byOrder,C7 t.round 3,(List.range 3).map (F5 t.zones)⟩
def B0u (s:Ab.Ship):Ab.Ship:=⟨C7 s.fee 900,C7 s.free 3 * 4000⟩
def A6H (p:A4P):A4P:=⟨20+C7 p.window 60,C7 p.grace 40,1+C7 p.mode 3,C7 p.restock 3 * C7 p.restock 2500,N6 p.order,N6 p.credit⟩
def A0g (r:H8):H8:=⟨O6 r.items,L8 r.promos,M0 r.tax,B0u r.ship,A6H r.policy⟩
theorem C6Z (n:Int):C7 n 2=0∨C7 n 2=1:=by
 have:=E9 n (n:=2) (by decide);omega
theorem C4Y (n:Int):C7 n 3=0∨C7 n 3=1∨C7 n 3=2:=by
 have:=E9 n (n:=3) (by decide);omega
theorem C5M (n:Int):C7 n 10=0∨C7 n 10=1∨C7 n 10=2∨C7 n 10=3∨C7 n 10=4∨C7 n 10=5∨C7 n 10=6∨C7 n 10=7∨C7 n 10=8∨C7 n 10=9:=by
 have:=E9 n (n:=10) (by decide);omega
theorem le3 {n:Nat} (h:n≤3):n=0∨n=1∨n=2∨n=3:=by omega
theorem lt3 {n:Nat} (h:n<3):n=0∨n=1∨n=2:=by omega
theorem Y6 {s:D6} (h:F9 s=true):s.size≤12:=by
 unfold F9 at h
 simp only [Bool.and_eq_true,decide_eq_true_eq] at h
 exact h.1.2
theorem B2l (n:Int):F9 (A1n n)=true:=by
 unfold A1n
 rcases C6Y n with h | h | h | h | h | h | h | h<;>rw [h]<;>kernel_rfl
theorem A5P (n:Int):F9 (A4H n)=true:=by
 unfold A4H
 rcases C4Y n with h | h | h<;>rw [h]<;>kernel_rfl
theorem A9M (n:Int):F9 (A4x n)=true:=by
 unfold A4x
 rcases C4Y n with h | h | h<;>rw [h]<;>kernel_rfl
theorem A8M (n:Int):F9 (B6e n)=true:=by
 unfold B6e
 rcases C6Z n with h | h<;>rw [h]<;>kernel_rfl
theorem B4m (n:Int):F9 (idN n)=true:=by
 unfold idN
 rcases C5M n with h | h | h | h | h | h | h | h | h | h<;>rw [h]<;>kernel_rfl
theorem B2a:A1W ⟨#[]⟩=true:=by kernel_rfl
theorem B4w {s:D6} (h:F9 s=true):A1W s=true:=by unfold A1W;rw [h,Bool.or_true]
theorem A8N (p:B4):A1W (A1B p)=true∧(A1B p).size≤12:=by
 unfold A1B;split
 ·exact ⟨B4w (A8M _),Y6 (A8M _)⟩
 ·exact ⟨B2a,by decide⟩
theorem A9N (p:B4):A1W (A2E p)=true∧(A2E p).size≤12:=by
 unfold A2E;split
 ·exact ⟨B4w (A9M _),Y6 (A9M _)⟩
 ·exact ⟨B2a,by decide⟩
theorem C1l (p:B4):0≤A2r p∧A2r p<9000:=by
 have:=E9 p.least (n:=9000) (by decide)
 unfold A2r;split<;>omega
theorem A4Y:Z1 ⟨[],[]⟩=true∧A0X ⟨[],[]⟩:=⟨by kernel_rfl,⟨by decide,by decide,fun x hx=>(by cases hx),fun x hx=>(by cases hx)⟩⟩
theorem A4n (l:List S3):(1≤(O7 l).length∧(O7 l).length≤3)∧∀ x∈O7 l,A0t x=true∧A0X x.scope:=by
 unfold O7
 split
 ·refine ⟨⟨Nat.le_refl _,by show 1≤3;decide⟩,fun x hx=>?_⟩
  rw [List.mem_singleton.1 hx]
  exact ⟨by kernel_rfl,A4Y.2⟩
 ·rename_i h
  refine ⟨by rw [List.length_map,List.length_take];omega,fun x hx=>?_⟩
  obtain ⟨y,_,rfl⟩:=List.mem_map.1 hx
  obtain ⟨h1,h2⟩:=A2i y.scope
  have:=E9 y.count (n:=2) (by decide)
  refine ⟨?_,h2⟩
  unfold A0t
  rw [show (X0 y).scope=P5 y.scope from rfl,h1,show (X0 y).count=1+C7 y.count 2 from rfl,decide_eq_false (by omega),decide_eq_false (by omega)];rfl
theorem B1c (l:List A0q) (step:Int) (i k:Nat) (hk:k<i):(P6 l step i).1.getD k default=B0v (l.getD k default) ((P6 l step k).2+C7 (l.getD k default).least step):=by
 induction i with
 | zero=>omega
 | succ i ih =>
  have hl:=A6R l step i
  show ((P6 l step i).1++[_]).getD k default=_
  by_cases e:k=i
  ·subst e
   rw [List.getD_eq_getElem?_getD,List.getElem?_append_right (by omega),hl,Nat.sub_self];rfl
  ·rw [List.getD_eq_getElem?_getD,List.getElem?_append_left (by omega),←List.getD_eq_getElem?_getD]
   exact ih (by omega)
theorem A2j (l:List A0q) (step:Int) (h:step=5000∨step=5):X5 (O8 l step)=true∧(O8 l step).length≤3:=by
 unfold O8
 split
 ·rcases h with rfl | rfl
  ·exact ⟨by kernel_rfl,by show 1≤3;decide⟩
  ·exact ⟨by kernel_rfl,by show 1≤3;decide⟩
 ·rename_i h0
  have hs:0<step∧step≤5000:=by omega
  have hl:=A6R l step (min l.length 3)
  refine ⟨?_,by omega⟩
  unfold X5
  rw [hl,decide_eq_false (by omega),decide_eq_false (by omega)]
  show K7 _ _=true
  refine K3 fun k hk=>?_
  rw [hl] at hk
  have hg:=B1c l step (min l.length 3) k hk
  have hm:=E9 (l.getD k default).least hs.1
  have hr:=E9 (l.getD k default).rate (n:=4000) (by decide)
  have ha:=E9 (l.getD k default).amount (n:=300) (by decide)
  have hlo:=A7R l hs.1 k
  have hip:(k:Int) * step≤3 * 5000:=Int.mul_le_mul (by omega) hs.2 (by omega) (by omega)
  unfold A3m
  rw [hg]
  have hprev:(if k=0 then -1 else ((P6 l step (min l.length 3)).1.getD (k - 1) default).least)<(P6 l step k).2+C7 (l.getD k default).least step:=by
   by_cases e:k=0
   ·rw [if_pos e];omega
   ·rw [if_neg e,B1c l step (min l.length 3) (k - 1) (by omega)]
    obtain ⟨j,rfl⟩:∃ j,k=j+1:=⟨k - 1,by omega⟩
    rw [Nat.add_sub_cancel]
    show (P6 l step j).2+C7 (l.getD j default).least step<(P6 l step j).2+C7 (l.getD j default).least step+1+C7 (l.getD (j+1) default).least step
    omega
  show (!(decide ((P6 l step k).2+C7 (l.getD k default).least step≤_)||decide ((P6 l step k).2+C7 (l.getD k default).least step>10000000000000)||decide (C7 (l.getD k default).rate 4000<0)||decide (C7 (l.getD k default).rate 4000>10000)||decide (1+C7 (l.getD k default).amount 300<0)||decide (1+C7 (l.getD k default).amount 300>10000000000000)||(C7 (l.getD k default).rate 4000==0&&1+C7 (l.getD k default).amount 300==0)))=true
  rw [decide_eq_false (by omega),decide_eq_false (by omega),decide_eq_false (by omega),decide_eq_false (by omega),decide_eq_false (by omega),decide_eq_false (by omega),show (1+C7 (l.getD k default).amount 300==0)=false from by rw [beq_eq_false_iff_ne];omega,Bool.and_false];rfl
theorem B8K (l:List Int) (n:Nat):(∀ x∈P7 l n,1≤x∧x≤5)∧(P7 l n).Nodup:=by
 induction n with
 | zero=>exact ⟨fun x hx=>absurd hx List.not_mem_nil,List.nodup_nil⟩
 | succ n ih =>
  rw [A5e];unfold A5d
  split
  ·exact ih
  ·rename_i h
   have hm:=E9 (gI l n) (n:=5) (by decide)
   have hno:1+C7 (gI l n) 5∉P7 l n:=fun hx=>h (List.any_eq_true.2 ⟨_,hx,beq_self_eq_true _⟩)
   refine ⟨fun x hx=>?_,List.nodup_append.2 ⟨ih.2,List.nodup_cons.2 ⟨List.not_mem_nil,List.nodup_nil⟩,fun a ha b hb=>?_⟩⟩
   ·rcases List.mem_append.1 hx with h' | h'
    ·exact ih.1 x h'
    ·rw [List.mem_singleton.1 h'];omega
   ·rw [List.mem_singleton.1 hb];intro e;exact hno (e▸ha)
theorem B4q {l:List Int} (h1:∀ x∈l,1≤x∧x≤5) (h2:l.Nodup):A0F l=true:=by
 refine K3 fun k hk=>?_
 have hx:=h1 _ (B3 hk)
 unfold A1V
 rw [show Q9 1 9 (l.getD k default)=true from J5.2 (by omega)]
 have:((l.take k).any fun y=>l.getD k default==y)=false:=by
  rw [List.any_eq_false]
  intro y hy
  obtain ⟨j,hj,rfl⟩:=List.getElem_of_mem hy
  rw [List.length_take] at hj
  rw [beq_iff_eq,List.getD_eq_getElem?_getD,List.getElem?_eq_getElem hk,Option.getD_some,List.getElem_take]
  intro e
  have:=(List.nodup_iff_pairwise_ne.1 h2)
  exact absurd e.symm (List.pairwise_iff_getElem.1 this j k (by omega) hk (by omega))
 rw [this];rfl
theorem A0f (l:List Int):A0F (N6 l)=true∧(N6 l).length≤6:=by
 have h:=B8K l (min l.length 6)
 have:=A9Y l (min l.length 6)
 exact ⟨B4q h.1 h.2,by show (P7 l _).length≤6;omega⟩
theorem A1D (q:B4) (h1:1≤q.kind∧q.kind<8) (hh:A6o q=true) (hp:A8r q=true) (hk:A6p q=true):H7 q=true:=by
 unfold H7;rw [decide_eq_true (show q.kind≥1 from h1.1),decide_eq_true h1.2,hh,hp,hk];rfl
theorem A2D (q:B4) (h1:F9 q.id=true) (h2:0≤q.prio∧q.prio≤1000) (h3:A1W q.group=true) (h4:A1W q.code=true) (h5:Z1 q.scope=true) (h6:0≤q.least∧q.least≤10000000000000):A6o q=true:=by
 unfold A6o;rw [h1,J5.2 h2,h3,h4,h5,J5.2 h6];rfl
theorem A5o (p:B4):1≤A2F p∧A2F p≤7:=by
 have:=E9 (IntKind.i64.wrap (p.kind - 1)) (n:=7) (by decide)
 unfold A2F;omega
theorem A8u (p:B4) (id K:Int) (hK:1≤K∧K≤7):H7 (O3 p id K)=true:=by
 have h1:=B4m id
 have h2:=E9 p.prio (n:=5) (by decide)
 have h3:=(A8N p).1
 have h4:=(A9N p).1
 have h5:=(A2i p.scope).1
 have h6:=C1l p
 have r:=E9 p.rate (n:=10000) (by decide)
 have a9:=E9 p.amount (n:=900) (by decide)
 have a3:=E9 p.amount (n:=3000) (by decide)
 have b3:=E9 p.buy (n:=3) (by decide)
 have g2:=E9 p.get (n:=2) (by decide)
 have hpt:=A4n p.parts
 have ht5:=(A2j p.tiers 5000 (.inl rfl)).1
 have ht6:=(A2j p.tiers 5 (.inr rfl)).1
 unfold O3
 generalize idN id=I at h1 ⊢
 generalize C7 p.prio 5=pr at h2 ⊢
 generalize A1B p=G at h3 ⊢
 generalize A2E p=C at h4 ⊢
 generalize P5 p.scope=S at h5 ⊢
 generalize A2r p=L at h6 ⊢
 generalize C7 p.rate 10000=R at r ⊢
 generalize C7 p.amount 900=A at a9 ⊢
 generalize C7 p.amount 3000=A3 at a3 ⊢
 generalize C7 p.buy 3=B at b3 ⊢
 generalize C7 p.get 2=Gt at g2 ⊢
 generalize O7 p.parts=PT at hpt ⊢
 generalize O8 p.tiers 5000=T5 at ht5 ⊢
 generalize O8 p.tiers 5=T6 at ht6 ⊢
 generalize p.closes=cl
 rcases (by omega:K=1∨K=2∨K=3∨K=4∨K=5∨K=6∨K=7) with rfl | rfl | rfl | rfl | rfl | rfl | rfl
 ·exact A1D ⟨I,1,pr,G,C,cl,S,L,1+R,0,0,0,[],[]⟩ ⟨(by decide:(1:Int)≤1),(by decide:(1:Int)<8)⟩ (A2D _ h1 ⟨h2.1,by show pr≤1000;omega⟩ h3 h4 h5 ⟨h6.1,by show L≤_;omega⟩) rfl (show Q9 1 10000 (1+R)=true from J5.2 (by omega))
 ·exact A1D ⟨I,2,pr,G,C,cl,S,L,0,1+A,0,0,[],[]⟩ ⟨(by decide:(1:Int)≤2),(by decide:(2:Int)<8)⟩ (A2D _ h1 ⟨h2.1,by show pr≤1000;omega⟩ h3 h4 h5 ⟨h6.1,by show L≤_;omega⟩) rfl (show Q9 1 1000000000 (1+A)=true from J5.2 (by omega))
 ·refine A1D ⟨I,3,pr,G,C,cl,S,L,1+R,0,1+B,1+Gt,[],[]⟩ ⟨(by decide:(1:Int)≤3),(by decide:(3:Int)<8)⟩ (A2D _ h1 ⟨h2.1,by show pr≤1000;omega⟩ h3 h4 h5 ⟨h6.1,by show L≤_;omega⟩) rfl ?_
  show (Q9 1 10000 (1+R)&&(Q9 1 100 (1+B)&&Q9 1 100 (1+Gt)))=true
  rw [J5.2 (show 1≤1+R∧1+R≤10000 by omega),J5.2 (show 1≤1+B∧1+B≤100 by omega),J5.2 (show 1≤1+Gt∧1+Gt≤100 by omega)];rfl
 ·refine A1D ⟨I,4,pr,G,C,cl,⟨[],[]⟩,L,0,A3,0,0,PT,[]⟩ ⟨(by decide:(1:Int)≤4),(by decide:(4:Int)<8)⟩ (A2D _ h1 ⟨h2.1,by show pr≤1000;omega⟩ h3 h4 A4Y.1 ⟨h6.1,by show L≤_;omega⟩) rfl ?_
  show (!(decide ((PT.length:Int)<1)||decide ((PT.length:Int)>3)||decide (A3<0)||decide (A3>10000000000000))&&!(PT.any fun x=>!A0t x))=true
  rw [decide_eq_false (by omega),decide_eq_false (by omega),decide_eq_false (by omega),decide_eq_false (by omega),show (PT.any fun x=>!A0t x)=false from by
   rw [List.any_eq_false];intro x hx;rw [(hpt.2 x hx).1];simp];rfl
 ·exact A1D ⟨I,5,pr,G,C,cl,S,L,0,0,0,0,[],T5⟩ ⟨(by decide:(1:Int)≤5),(by decide:(5:Int)<8)⟩ (A2D _ h1 ⟨h2.1,by show pr≤1000;omega⟩ h3 h4 h5 ⟨h6.1,by show L≤_;omega⟩) rfl ht5
 ·exact A1D ⟨I,6,pr,G,C,cl,S,L,0,0,0,0,[],T6⟩ ⟨(by decide:(1:Int)≤6),(by decide:(6:Int)<8)⟩ (A2D _ h1 ⟨h2.1,by show pr≤1000;omega⟩ h3 h4 h5 ⟨h6.1,by show L≤_;omega⟩) rfl ht6
 ·exact A1D ⟨I,7,pr,G,C,false,⟨[],[]⟩,L,1+R,0,0,0,[],[]⟩ ⟨(by decide:(1:Int)≤7),(by decide:(7:Int)<8)⟩ (A2D _ h1 ⟨h2.1,by show pr≤1000;omega⟩ h3 h4 A4Y.1 ⟨h6.1,by show L≤_;omega⟩) rfl (show Q9 1 10000 (1+R)=true from J5.2 (by omega))
theorem A0X.fit {s:T8} (h:A0X s):A6X s:=⟨by have:=h.n1;show _≤9223372036854775807;omega,by have:=h.n2;show _≤9223372036854775807;omega⟩
theorem B0t (p:B4) (id K:Int):P2 (O3 p id K):=by
 have hs:=(A2i p.scope).2
 have hp:=A4n p.parts
 refine ⟨?_,?_,?_⟩
 ·show A6X (if K=4∨K=7 then ⟨[],[]⟩ else P5 p.scope)
  split
  ·exact A4Y.2.fit
  ·exact hs.fit
 ·show (if K=4 then O7 p.parts else []).length≤9223372036854775807
  split
  ·omega
  ·exact Nat.zero_le _
 ·show ∀ x∈(if K=4 then O7 p.parts else []),_
  split
  ·exact fun x hx=>⟨(hp.2 x hx).2.fit.skus,(hp.2 x hx).2.fit.cats⟩
  ·exact fun x hx=>absurd hx List.not_mem_nil
theorem A1k (l:List B4):(L8 l).length=min l.length 6:=by unfold L8;rw [List.length_map,List.length_range]
theorem A5p {l:List B4} {k:Nat} (hk:k<(L8 l).length):(L8 l).getD k default=V7 l k:=by
 rw [A1k] at hk
 unfold L8
 rw [List.getD_eq_getElem?_getD,List.getElem?_map,List.getElem?_range hk];rfl
theorem A5q {l:List B4} {p:B4} (h:p∈L8 l):∃ (q:B4) (id K:Int),(1≤K∧K≤7)∧p=O3 q id K:=by
 obtain ⟨k,hk,rfl⟩:=List.mem_map.1 h
 exact ⟨_,_,_,A5o _,rfl⟩
theorem B6f:((List.range 6).all fun j=>(List.range j).all fun i=>!((idN (B8I i)).toList==(idN (B8I j)).toList))=true:=by kernel_rfl
theorem A8v (l:List B4):promosC (L8 l)=true:=by
 have hl:=A1k l
 unfold promosC
 rw [decide_eq_true (by omega),Bool.true_and]
 refine K3 fun k hk=>?_
 unfold U2
 rw [A5p hk,show H7 (V7 l k)=true from A8u _ _ _ (A5o _),Bool.true_and,Bool.not_eq_true',List.any_eq_false]
 intro x hx
 obtain ⟨j,hj,rfl⟩:=E3 hx
 rw [List.length_take] at hj
 rw [show ((L8 l).take k).getD j default=V7 l j by rw [List.getD_eq_getElem?_getD,List.getElem?_take_of_lt (by omega),←List.getD_eq_getElem?_getD,A5p (by omega)]]
 have:=List.all_eq_true.1 (List.all_eq_true.1 B6f k (List.mem_range.2 (by omega))) j (List.mem_range.2 (by omega))
 rw [Bool.not_eq_true'] at this
 show ¬((idN (B8I j)).toList==(idN (B8I k)).toList)=true
 rw [this];simp
theorem B8r (n:Nat) (h:n≤3):Z0 ((List.range n).map fun c:Nat=>A4H c)=true:=by
 rcases le3 h with rfl | rfl | rfl | rfl<;>kernel_rfl
theorem A7A (l:List H2):(R8 l).length≤3∧(∀ x∈R8 l,A3H x=true∧x.cat.size≤12)∧Z0 ((R8 l).map H2.cat)=true:=by
 unfold R8
 refine ⟨by rw [List.length_map,List.length_range];omega,fun x hx=>?_,?_⟩
 ·obtain ⟨c,_,rfl⟩:=List.mem_map.1 hx
  have:=E9 (l.getD c default).rate (n:=3000) (by decide)
  refine ⟨?_,Y6 (A5P _)⟩
  unfold A3H
  rw [show (A7z l c).cat=A4H c from rfl,A5P,show Q9 0 10000 (A7z l c).rate=true from J5.2 ⟨this.1,by show C7 _ 3000≤_;omega⟩];rfl
 ·rw [List.map_map]
  exact B8r _ (by omega)
theorem B1n:((List.range 3).all fun k:Nat=>F9 (X1 k))=true:=by kernel_rfl
theorem B4O (l:List L3) (k:Nat) (hk:k<3):V0 (F5 l k)=true:=by
 have hn:=List.all_eq_true.1 B1n k (List.mem_range.2 hk)
 have hz:=Y6 hn
 unfold F5
 split
 ·obtain ⟨h1,h2,h3⟩:=A7A (l.getD k default).rates
  have m1:=E9 (l.getD k default).rest (n:=3000) (by decide)
  have m2:=E9 (l.getD k default).ship (n:=3000) (by decide)
  generalize R8 (l.getD k default).rates=R at h1 h2 h3 ⊢
  unfold V0
  show (!(!F9 (X1 k)||!Q9 0 10000 (C7 _ 3000)||!Q9 0 10000 (C7 _ 3000)||decide ((R.length:Int)>40))&&(K7 R (fun _ x=>A3H x)&&Z0 (R.map H2.cat)))=true
  rw [hn,J5.2 (show 0≤C7 (l.getD k default).rest 3000∧_≤10000 by omega),J5.2 (show 0≤C7 (l.getD k default).ship 3000∧_≤10000 by omega),decide_eq_false (by omega),h3,show K7 R (fun _ x=>A3H x)=true from K3 fun j hj=>(h2 _ (B3 hj)).1];rfl
 ·rcases lt3 hk with rfl | rfl | rfl
  ·exact (by kernel_rfl:V0 ⟨X1 (0:Nat),[],1000 * ((0:Nat):Int),500 * ((0:Nat):Int)⟩=true)
  ·exact (by kernel_rfl:V0 ⟨X1 (1:Nat),[],1000 * ((1:Nat):Int),500 * ((1:Nat):Int)⟩=true)
  ·exact (by kernel_rfl:V0 ⟨X1 (2:Nat),[],1000 * ((2:Nat):Int),500 * ((2:Nat):Int)⟩=true)
theorem B9X (l:List L3):(((List.range 3).map (F5 l)).map L3.name)=[X1 0,X1 1,X1 2]:=by
 have e:∀ k,(F5 l k).name=X1 k:=fun k=>by unfold F5;split<;>rfl
 show [(F5 l 0).name,(F5 l 1).name,(F5 l 2).name]=_
 rw [e,e,e];rfl
theorem B6v (t:Tax):taxC (M0 t)=true:=by
 have hr:=E9 t.round (n:=3) (by decide)
 have hz:∀ z∈(M0 t).zones,V0 z=true:=fun z hz=>by
  obtain ⟨k,hk,rfl⟩:=List.mem_map.1 hz
  exact B4O _ k (List.mem_range.1 hk)
 have hn:(M0 t).zones.length=3:=by show ((List.range 3).map _).length=3;rw [List.length_map,List.length_range]
 unfold taxC
 rw [show (M0 t).round=C7 t.round 3 from rfl,hn,decide_eq_false (show ¬ C7 t.round 3<0 by omega),decide_eq_false (show ¬ C7 t.round 3>2 by omega),show (M0 t).zones.map L3.name=[X1 0,X1 1,X1 2] from B9X _,
  show Z0 [X1 0,X1 1,X1 2]=true by kernel_rfl,show K7 (M0 t).zones (fun _ z=>V0 z)=true from K3 fun j hj=>hz _ (B3 hj)];rfl
theorem B4H (l:List Ab.Item) (k:Nat):A3B (P3 l k)=true∧(P3 l k).sku.size≤12∧(P3 l k).cat.size≤12∨8≤k:=by
 by_cases h8:8≤k
 ·exact .inr h8
 refine .inl ?_
 have e:∀ (c:D6) (pr:Int) (f:Bool),F9 c=true→0≤pr∧pr≤1000000000→A3B ⟨A1n k,c,pr,f⟩=true∧(A1n k).size≤12∧c.size≤12:=fun c pr f hc hp=>by
  refine ⟨?_,Y6 (B2l _),Y6 hc⟩
  unfold A3B
  rw [show F9 (Ab.Item.mk (A1n k) c pr f).sku=true from B2l _,show F9 (Ab.Item.mk (A1n k) c pr f).cat=true from hc,decide_eq_false (show ¬(Ab.Item.mk (A1n k) c pr f).price<0 from by show ¬ pr<0;omega),decide_eq_false (show ¬(Ab.Item.mk (A1n k) c pr f).price>1000000000 from by show ¬ pr>_;omega)];rfl
 have hm:=E9 (l.getD k default).price (n:=4000) (by decide)
 unfold P3
 split
 ·exact e _ _ _ (A5P _) (by omega)
 ·exact e _ _ _ (A5P _) (by omega)
theorem A6q {l:List Ab.Item} {x:Ab.Item} (h:x∈O6 l):A3B x=true∧x.sku.size≤12∧x.cat.size≤12:=by
 obtain ⟨k,hk,rfl⟩:=List.mem_map.1 h
 have:=List.mem_range.1 hk
 rcases B4H l k with h | h
 ·exact h
 ·omega
theorem A9f (l:List Ab.Item):A1c (O6 l)=true:=by
 unfold A1c
 rw [A3h,B2m,show Z0 [W7 97,W7 98,W7 99,W7 100,W7 101,W7 102,W7 103,W7 104]=true by kernel_rfl,show K7 (O6 l) (fun _ x=>A3B x)=true from K3 fun j hj=>(A6q (B3 hj)).1];rfl
theorem A9g (r:H8):P9 (A0g r)=true:=by
 have h1:=E9 r.ship.fee (n:=900) (by decide)
 have h2:=E9 r.ship.free (n:=3) (by decide)
 have h3:=E9 r.policy.window (n:=60) (by decide)
 have h4:=E9 r.policy.grace (n:=40) (by decide)
 have h5:=E9 r.policy.mode (n:=3) (by decide)
 have h6:=E9 r.policy.restock (n:=3) (by decide)
 have h7:=E9 r.policy.restock (n:=2500) (by decide)
 have h8:C7 r.policy.restock 3 * C7 r.policy.restock 2500≤2 * 2499:=Int.mul_le_mul (by omega) (by omega) (by omega) (by omega)
 have h9:0≤C7 r.policy.restock 3 * C7 r.policy.restock 2500:=Int.mul_nonneg h6.1 h7.1
 show (A1c (O6 r.items)&&promosC (L8 r.promos)&&taxC (M0 r.tax)&&A8T (B0u r.ship)&&A5X (A6H r.policy))=true
 rw [A9f,A8v,B6v r.tax]
 have e1:A8T (B0u r.ship)=true:=by
  show (Q9 0 1000000000 (C7 r.ship.fee 900)&&Q9 0 10000000000000 (C7 r.ship.free 3 * 4000))=true
  rw [J5.2 (by omega),J5.2 (by omega)];rfl
 have e2:A5X (A6H r.policy)=true:=by
  show (Q9 0 100000 (20+C7 r.policy.window 60)&&Q9 0 100000 (C7 r.policy.grace 40)&&decide (1+C7 r.policy.mode 3≥1)&&decide (1+C7 r.policy.mode 3≤3)&&Q9 0 10000 (C7 r.policy.restock 3 * C7 r.policy.restock 2500)&&A0F (N6 r.policy.order)&&A0F (N6 r.policy.credit))=true
  rw [J5.2 (by omega),J5.2 (by omega),decide_eq_true (by omega),decide_eq_true (by omega),J5.2 (by omega),(A0f _).1,(A0f _).1];rfl
 rw [e1,e2];rfl
theorem B1w (r:H8):Y0 (A0g r):=by
 have h1:=A1k r.promos
 have h2:=(A0f r.policy.order).2
 have h3:=(A0f r.policy.credit).2
 refine ⟨by show (L8 r.promos).length≤9223372036854775807;omega,fun p hp=>?_,by show (N6 r.policy.order).length<_;omega,by show (N6 r.policy.credit).length<_;omega⟩
 obtain ⟨q,id,K,_,rfl⟩:=A5q hp
 exact B0t q id K
end Go.Proofs.YtbajhapmlfbelaaGreat
namespace Go.Proofs.YtbajhapmlfbelaaGreat
open Go Go.Ab
structure C6E where
 goods:Int
 tax:Int
 ship:Int
 shipTax:Int
 fee:Int
def C6N (b:C6E):AV:=.agg [eI b.goods,eI b.tax,eI b.ship,eI b.shipTax,eI b.fee]
def A0B (q:A4Q):AV:=.agg [A8 q.goods,A8 q.taxes,eI q.ship,eI q.shipTax,eI q.total,B1 2 A2Q q.deals]
def J7 (r:H8) (l:List G1):List D6:=(C3 r.items l).map Ab.Item.cat
def B7N (v:B5G) (deals:List A0S):A4Q:=⟨v.goods,v.taxes,v.ship,v.shipTax,A7 v.goods+A7 v.taxes+v.ship+v.shipTax,deals⟩
def A5r (r:H8) (z:L3) (exempt:Bool) (l:List G1) (Pr:A1r):A4Q:=B7N (L4 r.tax z exempt (J7 r l) Pr.nets Pr.ship) Pr.deals
def C4R (q:A4Q):C6E:=⟨A7 q.goods,A7 q.taxes,q.ship,q.shipTax,0⟩
theorem B6T {l:List Int} {B:Int} (hB:0≤B) (h:∀ x∈l,-B≤x∧x≤B) : -(l.length * B)≤A7 l∧A7 l≤l.length * B:=by
 induction l with
 | nil=>exact ⟨by show -(((0:Nat):Int) * B)≤0;rw [Int.natCast_zero,Int.zero_mul];omega,by show (0:Int)≤((0:Nat):Int) * B;rw [Int.natCast_zero,Int.zero_mul];omega⟩
 | cons x l ih =>
  have h1:=ih fun y hy=>h y (List.mem_cons_of_mem _ hy)
  have h2:=h x (List.mem_cons_self ..)
  rw [K5,List.length_cons,show ((l.length+1:Nat):Int) * B=l.length * B+B by rw [Int.natCast_add,Int.add_mul];simp]
  omega
structure N2 (l:List Int):Prop where
 len:l.length≤1000
 all:∀ x∈l,-10000000000000≤x∧x≤10000000000000
theorem N2.take {l:List Int} (h:N2 l) (i:Nat) : -10000000000000000≤A7 (l.take i)∧A7 (l.take i)≤10000000000000000:=by
 have h1:=B6T (l:=l.take i) (B:=10000000000000) (by decide) fun x hx=>h.all x (List.mem_of_mem_take hx)
 have h2:(l.take i).length≤1000:=by rw [List.length_take];have:=h.len;omega
 omega
theorem N2.sum {l:List Int} (h:N2 l) : -10000000000000000≤A7 l∧A7 l≤10000000000000000:=by
 have:=h.take l.length
 rwa [List.take_length] at this
theorem N2.step {l:List Int} (h:N2 l) {i:Nat} (hi:i<l.length):IntKind.i64.wrap (A7 (l.take i)+gI l i)=A7 (l.take (i+1)):=by
 have h1:=h.take (i+1)
 rw [L6 hi] at h1 ⊢
 exact A9 (by omega) (by omega)
structure A0k (t:Tax) (z:L3) (cats:List D6) (nets:List Int) (ship:Int):Prop where
 tax:taxC t=true
 zone:V0 z=true
 cats:cats.length=nets.length
 nets:A3V nets
 ship:0≤ship∧ship≤10000000000000
structure B7h (q:A4Q) (n:Nat):Prop where
 goods:N2 q.goods
 taxes:N2 q.taxes
 ngoods:q.goods.length=n
 ntaxes:q.taxes.length=n
 pos:∀ x∈q.taxes,0≤x
 ship:0≤q.ship∧q.ship≤10000000000000
 shipTax:0≤q.shipTax∧q.shipTax≤10000000000000
 total:q.total=A7 q.goods+A7 q.taxes+q.ship+q.shipTax
theorem A3I {t:Tax} {z:L3} {cats:List D6} {nets:List Int} {ship:Int} (h:A0k t z cats nets ship):(cats.map (E7 z)).length=nets.length∧∀ x∈cats.map (E7 z),0≤x∧x≤10000:=by
 refine ⟨by rw [List.length_map];exact h.cats,fun x hx=>?_⟩
 obtain ⟨c,_,rfl⟩:=List.mem_map.1 hx
 exact B5a h.zone c
theorem B2V {t:Tax} {z:L3} {cats:List D6} {nets:List Int} {ship:Int} (h:A0k t z cats nets ship) (exempt:Bool) (deals:List A0S):B7h (B7N (L4 t z exempt cats nets ship) deals) nets.length:=by
 obtain ⟨r1,r2⟩:=A3I h
 obtain ⟨t1,t2⟩:=A7Q (t:=t) h.nets r1 r2
 have hz:=(A5K h.zone).2.1
 have hm:=A2U (t:=t) h.ship.1 hz
 have hs:=h.ship
 have hn:=h.nets
 have hnx:∀ i,i<nets.length→0≤gI nets i∧gI nets i≤10000000000000:=fun i hi=>by
  have h1:=hn.pos _ (show gI nets i∈nets from B3 hi)
  have h2:=I9 hn.pos (show gI nets i∈nets from B3 hi)
  have h3:=hn.sum
  exact ⟨h1,by omega⟩
 have htx:∀ i,i<nets.length→0≤gI (I6 t (cats.map (E7 z)) nets) i∧gI (I6 t (cats.map (E7 z)) nets) i≤10000000000000:=fun i hi=>t2 _ (B3 (by omega))
 have hnl:=hn.len
 have gl:(A4i t (I6 t (cats.map (E7 z)) nets) nets).length=nets.length:=by unfold A4i;rw [List.length_map,List.length_range]
 refine ⟨⟨by show (A4i _ _ _).length≤_;omega,fun x hx=>?_⟩,⟨?_,fun x hx=>?_⟩,gl,?_,fun x hx=>?_,?_,?_,rfl⟩
 ·obtain ⟨i,hi,rfl⟩:=List.mem_map.1 (show x∈A4i _ _ _ from hx)
  have hi:=List.mem_range.1 hi
  have h1:=hnx i hi
  have h2:=htx i hi
  split<;>omega
 ·show (if exempt=true then List.replicate nets.length 0 else I6 t (cats.map (E7 z)) nets).length≤1000
  split
  ·rw [List.length_replicate];omega
  ·omega
 ·have hx:x∈(if exempt=true then List.replicate nets.length 0 else I6 t (cats.map (E7 z)) nets):=hx
  split at hx
  ·rw [(List.mem_replicate.1 hx).2];omega
  ·have:=t2 x hx;omega
 ·show (if exempt=true then List.replicate nets.length 0 else I6 t (cats.map (E7 z)) nets).length=nets.length
  split
  ·exact List.length_replicate
  ·exact t1
 ·have hx:x∈(if exempt=true then List.replicate nets.length 0 else I6 t (cats.map (E7 z)) nets):=hx
  split at hx
  ·rw [(List.mem_replicate.1 hx).2];exact Int.le_refl _
  ·exact (t2 x hx).1
 ·show 0≤(if t.incl=true then ship - B6 t ship z.ship else ship)∧(if t.incl=true then ship - B6 t ship z.ship else ship)≤10000000000000
  split<;>omega
 ·show 0≤(if exempt=true then 0 else B6 t ship z.ship)∧(if exempt=true then 0 else B6 t ship z.ship)≤10000000000000
  split<;>omega
theorem A8n {t:Tax} {z:L3} {cats:List D6} {nets:List Int} {ship:Int} (h:A0k t z cats nets ship) (exempt:Bool) :
  A7 (L4 t z exempt cats nets ship).goods≤10000000000000∧-10000000000000≤A7 (L4 t z exempt cats nets ship).goods∧A7 (L4 t z exempt cats nets ship).taxes≤10000000000000:=by
 obtain ⟨r1,r2⟩:=A3I h
 obtain ⟨t1,t2⟩:=A7Q (t:=t) h.nets r1 r2
 have hs:=h.nets.sum
 have hle:∀ i,i<nets.length→gI (I6 t (cats.map (E7 z)) nets) i≤gI nets i:=fun i hi=>C2E h.nets r1 r2 hi
 have h0:∀ i,i<nets.length→0≤gI (I6 t (cats.map (E7 z)) nets) i:=fun i hi=>(t2 _ (B3 (by omega))).1
 have hn0:∀ i,i<nets.length→0≤gI nets i:=fun i hi=>h.nets.pos _ (B3 hi)
 have hrn:=A5s nets
 have hg:A7 (A4i t (I6 t (cats.map (E7 z)) nets) nets)≤A7 ((List.range nets.length).map (gI nets)):=by
  refine A5z _ _ _ fun i hi=>?_
  have:=h0 i hi
  split<;>omega
 have hg0:0≤A7 (A4i t (I6 t (cats.map (E7 z)) nets) nets):=C4 fun x hx=>by
  obtain ⟨i,hi,rfl⟩:=List.mem_map.1 hx
  have hi:=List.mem_range.1 hi
  have h1:=hle i hi
  have h2:=hn0 i hi
  split<;>omega
 have ht:A7 (I6 t (cats.map (E7 z)) nets)≤A7 ((List.range nets.length).map (gI nets)):=by
  have e:=A5s (I6 t (cats.map (E7 z)) nets)
  rw [t1] at e
  rw [←e]
  exact A5z _ _ _ fun i hi=>hle i hi
 rw [hrn] at hg ht
 refine ⟨by show A7 (A4i _ _ _)≤_;omega,by show _≤A7 (A4i _ _ _);omega,?_⟩
 show A7 (if exempt=true then List.replicate nets.length 0 else I6 t (cats.map (E7 z)) nets)≤_
 split
 ·have e:∀ n,A7 (List.replicate n (0:Int))=0:=fun n=>by
   induction n with
   | zero=>rfl
   | succ n ih=>rw [List.replicate_succ,K5,ih];rfl
  rw [e];omega
 ·omega
theorem A9S {t:Tax} (h:taxC t=true) {s:D6} {z:L3} (hz:X7 t.zones s=some z):V0 z=true:=by
 unfold taxC at h
 simp only [Bool.and_eq_true] at h
 obtain ⟨k,hk,rfl⟩:=E3 (List.mem_of_find?_eq_some hz)
 exact A3w.1 h.2.1 k hk
end Go.Proofs.YtbajhapmlfbelaaGreat
