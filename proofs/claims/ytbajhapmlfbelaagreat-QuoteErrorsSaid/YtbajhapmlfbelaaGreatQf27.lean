/- Part 27 of the proof: contracts of the functions that the law reaches -/
import Derived.Test.YtbajhapmlfbelaaGreatQf26
set_option maxRecDepth 100000
set_option linter.unusedVariables false
set_option linter.unusedSimpArgs false
namespace Go.Proofs.YtbajhapmlfbelaaGreat
open Go Go.Ab
attribute [local irreducible] upd del
theorem C2e (l:List S3) (hl:Sm l.length) (hs:∀ x∈l,A0X x.scope) (st:St):S P 304 [B1 3 T2 l] st fun v st'=>v=.bool (K7 l (fun _ x=>A0t x)&&(decide ((l.length:Int)≥1)&&decide ((l.length:Int)≤3)))∧st'=st:=by
 refine G0 [] Tryz.func304 ?_
 refine lp l.length [0,3] (fun i vs st'=>(∀ k,k<i→A0t (l.getD k default)=true)∧vs=[B1 3 T2 l,eI i]∧st'=st) ?_ ?_
 ·conv=>whnf
  exact ⟨fun k hk=>absurd hk (by omega),rfl,rfl⟩
 ·rintro i vs st' hi ⟨hok,rfl,rfl⟩
  conv=>whnf
  cases h:decide ((i:Int)<(l.length:Int))
  ·obtain rfl:=C6 h hi
   rw [K3 hok,Bool.true_and];conv=>whnf
   refine B9 (fun h=>?_) (fun h=>?_)<;>rw [h]<;>(conv=>whnf)<;>exact ⟨rfl,rfl⟩
  ·have hi':=E4 h
   have yes:A0t (l.getD (i:Int).toNat default)=true→∀ k,k<i+1→A0t (l.getD k default)=true:=fun h=>K0 hok h
   have no:A0t (l.getD (i:Int).toNat default)=false→K7 l (fun _ x=>A0t x)=false:=fun h=>U3 (p:=fun _ x=>A0t x) hi' h
   have n1:=B4Z (l.getD (i:Int).toNat default).scope (hs _ (B3 hi')) st'
   rw [show A0t (l.getD (i:Int).toNat default)=(Z1 (l.getD (i:Int).toNat default).scope&&!(decide ((l.getD (i:Int).toNat default).count<1)||decide ((l.getD (i:Int).toNat default).count>100))) from rfl] at yes no
   generalize Z1 (l.getD (i:Int).toNat default).scope=b1 at n1 yes no
   repeat' ((conv=>whnf);first | refine ⟨rfl,⟨by omega,by omega⟩,?_⟩ | refine C5 n1 ?_ | cases b1 | (refine B9 (fun h=>?_) (fun h=>?_)<;>rw [h]))
   all_goals (conv=>whnf)
   all_goals first
    | (rw [no (by simp only [*,Bool.true_or,Bool.or_true,Bool.not_true,Bool.and_false,Bool.false_and])];exact ⟨rfl,rfl⟩)
    | (refine ⟨rfl,?_⟩;conv=>whnf
       exact nx hi' ⟨yes (by simp only [*,Bool.or_false,Bool.not_false,Bool.and_true]),by rw [B8 (by omega)],rfl⟩)
theorem B5d (l:List Int) (hl:Sm l.length) (st:St):S P 159 [A8 l] st fun v st'=>v=.bool (A0F l)∧st'=st:=by
 refine G0 [] Tryz.func159 ?_
 refine lp l.length [0,3] (fun i vs st'=>(∀ k,k<i→A1V l k (l.getD k default)=true)∧vs=[A8 l,eI i]∧st'=st) ?_ ?_
 ·conv=>whnf
  exact ⟨fun k hk=>absurd hk (by omega),rfl,rfl⟩
 ·rintro i vs st' hi ⟨hok,rfl,rfl⟩
  conv=>whnf
  cases h:decide ((i:Int)<(l.length:Int))
  ·obtain rfl:=C6 h hi
   conv=>whnf
   exact ⟨by rw [show A0F l=true from K3 hok];rfl,rfl⟩
  ·have hi':=E4 h
   have yes:A1V l i (l.getD (i:Int).toNat default)=true→∀ k,k<i+1→A1V l k (l.getD k default)=true:=fun h=>K0 hok h
   have no:A1V l i (l.getD (i:Int).toNat default)=false→A0F l=false:=fun h=>U3 hi' h
   rw [show A1V l i (l.getD (i:Int).toNat default)=!(!(decide ((l.getD (i:Int).toNat default)≥1)&&decide ((l.getD (i:Int).toNat default)≤9))||(l.take i).any fun y=>l.getD (i:Int).toNat default==y) from rfl] at yes no
   have no':(decide ((l.getD (i:Int).toNat default)≥1)&&decide ((l.getD (i:Int).toNat default)≤9))=false→A0F l=false:=fun h=>no (by rw [h];rfl)
   repeat' ((conv=>whnf);first | refine ⟨rfl,⟨by omega,by omega⟩,?_⟩ | (refine B9 (fun h=>?_) (fun h=>?_)<;>rw [h]))
   all_goals (conv=>whnf)
   ·rw [no' (by rw [Bool.and_eq_false_iff,decide_eq_false_iff_not,decide_eq_false_iff_not];simp only [decide_eq_true_eq,decide_eq_false_iff_not] at *;omega)];exact ⟨rfl,rfl⟩
   ·rw [no' (by rw [Bool.and_eq_false_iff,decide_eq_false_iff_not,decide_eq_false_iff_not];simp only [decide_eq_true_eq,decide_eq_false_iff_not] at *;omega)];exact ⟨rfl,rfl⟩
   have hk:(decide ((l.getD (i:Int).toNat default)≥1)&&decide ((l.getD (i:Int).toNat default)≤9))=true:=by rw [Bool.and_eq_true,decide_eq_true_eq,decide_eq_true_eq];simp only [decide_eq_true_eq,decide_eq_false_iff_not] at *;omega
   rw [hk] at yes no
   refine lp i [0,3,4] (fun j vs s=>(∀ k,k<j→(l.getD k default==l.getD i default)=false)∧vs=[A8 l,eI i,eI j]∧s=st') ?_ ?_
   ·conv=>whnf
    exact ⟨fun k hk=>absurd hk (by omega),rfl,rfl⟩
   ·rintro j vs s hj ⟨hokj,rfl,rfl⟩
    conv=>whnf
    cases h:decide ((j:Int)<(i:Int))
    ·obtain rfl:=C6 h hj
     conv=>whnf
     refine G7 ?_
     refine nx hi' ⟨yes ?_,by rw [B8 (by omega)],rfl⟩
     rw [List.any_eq_false.2 fun x hx=>?_];rfl
     obtain ⟨k,hk2,rfl⟩:=E3 hx
     rw [List.length_take] at hk2
     have h4:=hokj k (by omega)
     rw [Int.toNat_natCast,show (l.take j).getD k default=l.getD k default by rw [List.getD_eq_getElem?_getD,List.getD_eq_getElem?_getD,List.getElem?_take_of_lt (by omega)],Bool.beq_comm,h4];simp
    ·have hj':=E4 h
     conv=>whnf
     refine ⟨[],[],List.range 9,by kernel_rfl,?_⟩;conv=>whnf
     refine E1 ?_
     refine E1 ?_
     refine B9 (fun h1=>?_) (fun h1=>?_)<;>rw [h1]
     ·conv=>whnf
      refine ⟨?_,rfl⟩
      rw [no ?_];rfl
      rw [List.any_eq_true.2 ⟨l.getD j default,?_,?_⟩];rfl
      ·rw [List.mem_take_iff_getElem]
       exact ⟨j,by omega,by simp [show j<l.length by omega]⟩
      ·rw [Bool.beq_comm];exact h1
     ·conv=>whnf
      refine G7 ?_
      exact nx hj' ⟨K0 hokj h1,by rw [B8 (by omega)],rfl⟩
structure B2y (z:L3):Prop where
 n:Sm z.rates.length
 s:Sm z.name.size
 r:∀ x∈z.rates,Sm x.cat.size
def A3i (l:List H2) (k:Nat) (x:H2):Bool:=F9 x.cat&&Q9 0 10000 x.rate&&O1 (l.map H2.cat) k
def B1l (z:L3):Bool:=K7 z.rates (A3i z.rates)&&(decide ((z.rates.length:Int)≤40)&&Q9 0 10000 z.rest&&Q9 0 10000 z.ship)
theorem C2f (z:L3) (hz:B2y z) (st:St):S P 247 [Q6 z] st fun v st'=>v=.bool (B1l z)∧st'=st:=by
 rw [show B1l z=(K7 z.rates (A3i z.rates)&&(decide ((z.rates.length:Int)≤40)&&Q9 0 10000 z.rest&&Q9 0 10000 z.ship)) from rfl]
 refine G0 [1] Tryz.func247 ?_
 refine lp z.rates.length [1,3] (fun i vs st'=>(∀ k,k<i→A3i z.rates k (z.rates.getD k default)=true)∧vs=[.fptr (Q6 z) 0,eI i]∧st'=st) ?_ ?_
 ·conv=>whnf
  exact ⟨fun k hk=>absurd hk (by omega),rfl,rfl⟩
 ·rintro i vs st' hi ⟨hok,rfl,rfl⟩
  conv=>whnf
  cases h:decide ((i:Int)<(z.rates.length:Int))
  ·obtain rfl:=C6 h hi
   rw [show K7 z.rates (A3i z.rates)=true from K3 hok,Bool.true_and];conv=>whnf
   cases hd:decide ((z.rates.length:Int)≤40)
   ·conv=>whnf
    exact ⟨rfl,rfl⟩
   ·conv=>whnf
    refine I2 (A2c z.rest 10000 _) ?_
    cases Q9 0 10000 z.rest
    ·conv=>whnf
     exact ⟨rfl,rfl⟩
    ·conv=>whnf
     refine I2 (A2c z.ship 10000 _) ?_
     exact ⟨rfl,rfl⟩
  ·have hi':=E4 h
   have yes:A3i z.rates i (z.rates.getD (i:Int).toNat default)=true→∀ k,k<i+1→A3i z.rates k (z.rates.getD k default)=true:=fun h=>K0 hok h
   have no:A3i z.rates i (z.rates.getD (i:Int).toNat default)=false→K7 z.rates (A3i z.rates)=false:=fun h=>U3 hi' h
   have hl:=hz.n
   have hm:=hz.r _ (B3 hi')
   have n1:=A2Z (z.rates.getD (i:Int).toNat default).cat hm st'
   have n2:=A2c (z.rates.getD (i:Int).toNat default).rate 10000 st'
   have e:0<i→O1 (z.rates.map H2.cat) i=!(Op.bytesLess (z.rates.getD i default).cat.toList (z.rates.getD (i - 1) default).cat.toList||(z.rates.getD i default).cat.toList==(z.rates.getD (i - 1) default).cat.toList):=fun hp=>by
    rw [B3p hp]
    have e1:(z.rates.map H2.cat).getD i default=(z.rates.getD i default).cat:=E6 H2.cat z.rates hi'
    have e2:(z.rates.map H2.cat).getD (i - 1) default=(z.rates.getD (i - 1) default).cat:=E6 H2.cat z.rates (by omega)
    rw [e1,e2]
   have e0:i=0→O1 (z.rates.map H2.cat) i=true:=fun h=>by rw [h];rfl
   rw [show A3i z.rates i (z.rates.getD (i:Int).toNat default)=(F9 (z.rates.getD (i:Int).toNat default).cat&&Q9 0 10000 (z.rates.getD (i:Int).toNat default).rate&&O1 (z.rates.map H2.cat) i) from rfl] at yes no
   generalize F9 (z.rates.getD (i:Int).toNat default).cat=b1 at n1 yes no
   generalize Q9 0 10000 (z.rates.getD (i:Int).toNat default).rate=b2 at n2 yes no
   conv=>whnf
   refine ⟨[],[],List.range 38,by kernel_rfl,?_⟩
   cases h0:decide ((i:Int)>0)
   ·replace e:=e0 (by have:=of_decide_eq_false h0;omega)
    repeat' ((conv=>whnf);first | refine ⟨rfl,⟨by omega,by omega⟩,?_⟩ | refine ⟨_,N4 n1,?_⟩ | refine ⟨_,N4 n2,?_⟩ | rw [h0] | cases b1 | cases b2)
    all_goals (conv=>whnf)
    all_goals first
     | (rw [no (by rfl)];exact ⟨rfl,rfl⟩)
     | (refine ⟨rfl,?_⟩;conv=>whnf
        exact nx hi' ⟨yes (by rw [e];rfl),by rw [B8 (by omega)],rfl⟩)
   ·have h0':0<i:=by have:=of_decide_eq_true h0;omega
    replace e:=e h0'
    have hw:=A6t h0' (by omega)
    repeat' ((conv=>whnf);first | refine ⟨rfl,⟨by omega,by omega⟩,?_⟩ | refine ⟨rfl,⟨by rw [hw];omega,by rw [hw];omega⟩,?_⟩ | refine ⟨_,N4 n1,?_⟩ | refine ⟨_,N4 n2,?_⟩ | rw [h0] | cases b1 | cases b2 | refine B9 (fun h=>?_) (fun h=>?_))
    all_goals (conv=>whnf)
    all_goals first
     | (rw [no (by rfl)];exact ⟨rfl,rfl⟩)
     | (rw [hw] at h;rw [no (by rw [e];exact congrArg not h)];exact ⟨rfl,rfl⟩)
     | (rw [hw] at h;refine ⟨rfl,?_⟩;conv=>whnf
        exact nx hi' ⟨yes (by rw [e];exact congrArg not h),by rw [B8 (by omega)],rfl⟩)
def A3n (l:List L3) (k:Nat) (x:L3):Bool:=F9 x.name&&B1l x&&O1 (l.map L3.name) k
structure A8E (x:Tax):Prop where
 n:Sm x.zones.length
 z:∀ z∈x.zones,B2y z
def C4B (x:Tax):Bool:=K7 x.zones (A3n x.zones)&&(decide ((x.zones.length:Int)≤20)&&decide (x.round≥0)&&decide (x.round≤2))
theorem C4l (x:Tax) (hx:A8E x) (st:St):S P 157 [M8 x] st fun v st'=>v=.bool (C4B x)∧st'=st:=by
 rw [show C4B x=(K7 x.zones (A3n x.zones)&&(decide ((x.zones.length:Int)≤20)&&decide (x.round≥0)&&decide (x.round≤2))) from rfl]
 refine G0 [1] Tryz.func157 ?_
 refine lp x.zones.length [1,3] (fun i vs st'=>(∀ k,k<i→A3n x.zones k (x.zones.getD k default)=true)∧vs=[.fptr (M8 x) 0,eI i]∧st'=st) ?_ ?_
 ·conv=>whnf
  exact ⟨fun k hk=>absurd hk (by omega),rfl,rfl⟩
 ·rintro i vs st' hi ⟨hok,rfl,rfl⟩
  conv=>whnf
  cases h:decide ((i:Int)<(x.zones.length:Int))
  ·obtain rfl:=C6 h hi
   rw [show K7 x.zones (A3n x.zones)=true from K3 hok,Bool.true_and];conv=>whnf
   refine B9 (fun h=>?_) (fun h=>?_)<;>rw [h]
   ·conv=>whnf
    refine B9 (fun h=>?_) (fun h=>?_)<;>rw [h]<;>(conv=>whnf)<;>exact ⟨rfl,rfl⟩
   ·conv=>whnf
    exact ⟨rfl,rfl⟩
  ·have hi':=E4 h
   have yes:A3n x.zones i (x.zones.getD (i:Int).toNat default)=true→∀ k,k<i+1→A3n x.zones k (x.zones.getD k default)=true:=fun h=>K0 hok h
   have no:A3n x.zones i (x.zones.getD (i:Int).toNat default)=false→K7 x.zones (A3n x.zones)=false:=fun h=>U3 hi' h
   have hl:=hx.n
   have hm:=hx.z _ (B3 hi')
   have n1:=A2Z (x.zones.getD (i:Int).toNat default).name hm.s st'
   have n2:=C2f (x.zones.getD (i:Int).toNat default) hm st'
   have e:0<i→O1 (x.zones.map L3.name) i=!(Op.bytesLess (x.zones.getD i default).name.toList (x.zones.getD (i - 1) default).name.toList||(x.zones.getD i default).name.toList==(x.zones.getD (i - 1) default).name.toList):=fun hp=>by
    rw [B3p hp]
    have e1:(x.zones.map L3.name).getD i default=(x.zones.getD i default).name:=E6 L3.name x.zones hi'
    have e2:(x.zones.map L3.name).getD (i - 1) default=(x.zones.getD (i - 1) default).name:=E6 L3.name x.zones (by omega)
    rw [e1,e2]
   have e0:i=0→O1 (x.zones.map L3.name) i=true:=fun h=>by rw [h];rfl
   rw [show A3n x.zones i (x.zones.getD (i:Int).toNat default)=(F9 (x.zones.getD (i:Int).toNat default).name&&B1l (x.zones.getD (i:Int).toNat default)&&O1 (x.zones.map L3.name) i) from rfl] at yes no
   generalize F9 (x.zones.getD (i:Int).toNat default).name=b1 at n1 yes no
   generalize B1l (x.zones.getD (i:Int).toNat default)=b2 at n2 yes no
   conv=>whnf
   refine ⟨[],[],List.range 37,by kernel_rfl,?_⟩
   cases h0:decide ((i:Int)>0)
   ·replace e:=e0 (by have:=of_decide_eq_false h0;omega)
    repeat' ((conv=>whnf);first | refine ⟨rfl,⟨by omega,by omega⟩,?_⟩ | refine ⟨_,N4 n1,?_⟩ | refine ⟨_,N4 n2,?_⟩ | rw [h0] | cases b1 | cases b2)
    all_goals (conv=>whnf)
    all_goals first
     | (rw [no (by rfl)];exact ⟨rfl,rfl⟩)
     | (refine ⟨rfl,?_⟩;conv=>whnf
        exact nx hi' ⟨yes (by rw [e];rfl),by rw [B8 (by omega)],rfl⟩)
   ·have h0':0<i:=by have:=of_decide_eq_true h0;omega
    replace e:=e h0'
    have hw:=A6t h0' (by omega)
    repeat' ((conv=>whnf);first | refine ⟨rfl,⟨by omega,by omega⟩,?_⟩ | refine ⟨rfl,⟨by rw [hw];omega,by rw [hw];omega⟩,?_⟩ | refine ⟨_,N4 n1,?_⟩ | refine ⟨_,N4 n2,?_⟩ | rw [h0] | cases b1 | cases b2 | refine B9 (fun h=>?_) (fun h=>?_))
    all_goals (conv=>whnf)
    all_goals first
     | (rw [no (by rfl)];exact ⟨rfl,rfl⟩)
     | (rw [hw] at h;rw [no (by rw [e];exact congrArg not h)];exact ⟨rfl,rfl⟩)
     | (rw [hw] at h;refine ⟨rfl,?_⟩;conv=>whnf
        exact nx hi' ⟨yes (by rw [e];exact congrArg not h),by rw [B8 (by omega)],rfl⟩)
theorem C2U (z:L3):(F9 z.name&&B1l z)=V0 z:=by
 unfold B1l V0 K7 Z0 A3i A3H Q9
 rw [List.length_map,←Bool.coe_iff_coe]
 simp only [Bool.and_eq_true,List.all_eq_true,List.mem_range,Bool.not_eq_true',Bool.or_eq_false_iff,Bool.not_eq_false',decide_eq_true_eq,decide_eq_false_iff_not]
 constructor
 ·rintro ⟨h0,h1,⟨h2,h3⟩,h4⟩
  exact ⟨⟨⟨⟨h0,h3⟩,h4⟩,by omega⟩,fun k hk=>(h1 k hk).1,fun k hk=>(h1 k hk).2⟩
 ·rintro ⟨⟨⟨⟨h0,h3⟩,h4⟩,h2⟩,h1,h5⟩
  exact ⟨h0,fun k hk=>⟨h1 k hk,h5 k hk⟩,⟨by omega,h3⟩,h4⟩
theorem C4C (x:Tax):C4B x=taxC x:=by
 unfold C4B taxC
 rw [←Bool.coe_iff_coe]
 unfold K7 Z0 A3n
 rw [List.length_map]
 simp only [C2U,Bool.and_eq_true,List.all_eq_true,List.mem_range,Bool.not_eq_true',Bool.or_eq_false_iff,Bool.not_eq_false',decide_eq_true_eq,decide_eq_false_iff_not]
 constructor
 ·rintro ⟨h1,⟨h2,h3⟩,h4⟩
  exact ⟨⟨⟨by omega,by omega⟩,by omega⟩,fun k hk=>(h1 k hk).1,fun k hk=>(h1 k hk).2⟩
 ·rintro ⟨⟨⟨h3,h4⟩,h2⟩,h1,h5⟩
  exact ⟨fun k hk=>⟨h1 k hk,h5 k hk⟩,⟨by omega,by omega⟩,by omega⟩
theorem B6C (x:Tax) (hx:A8E x) (st:St):S P 157 [M8 x] st fun v st'=>v=.bool (taxC x)∧st'=st:=by
 rw [←C4C];exact C4l x hx st
def A2l (l:List A0q) (k:Nat) (x:A0q):Bool:=Q9 0 10000000000000 x.least&&Q9 0 10000 x.rate&&Q9 0 10000000000000 x.amount&&!(x.rate==0&&x.amount==0)&&(k==0||!decide (x.least≤(l.getD (k - 1) default).least))
theorem C2g (l:List A0q) (hl:Sm l.length) (st:St):S P 305 [B1 3 Q5 l] st fun v st'=>v=.bool (K7 l (A2l l)&&(decide ((l.length:Int)≥1)&&decide ((l.length:Int)≤6)))∧st'=st:=by
 refine G0 [4] Tryz.func305 ?_
 refine lp l.length [0,3] (fun i vs st'=>(∀ k,k<i→A2l l k (l.getD k default)=true)∧vs=[B1 3 Q5 l,eI i]∧st'=st) ?_ ?_
 ·conv=>whnf
  exact ⟨fun k hk=>absurd hk (by omega),rfl,rfl⟩
 ·rintro i vs st' hi ⟨hok,rfl,rfl⟩
  conv=>whnf
  cases h:decide ((i:Int)<(l.length:Int))
  ·obtain rfl:=C6 h hi
   rw [K3 hok,Bool.true_and];conv=>whnf
   refine B9 (fun h=>?_) (fun h=>?_)<;>rw [h]<;>(conv=>whnf)<;>exact ⟨rfl,rfl⟩
  ·have hi':=E4 h
   have yes:A2l l i (l.getD (i:Int).toNat default)=true→∀ k,k<i+1→A2l l k (l.getD k default)=true:=fun h=>K0 hok h
   have no:A2l l i (l.getD (i:Int).toNat default)=false→K7 l (A2l l)=false:=fun h=>U3 hi' h
   have n1:=A2c (l.getD (i:Int).toNat default).least 10000000000000 st'
   have n2:=A2c (l.getD (i:Int).toNat default).rate 10000 st'
   have n3:=A2c (l.getD (i:Int).toNat default).amount 10000000000000 st'
   have hw:=fun h=>A6t (i:=i) h (by omega)
   rw [show A2l l i (l.getD (i:Int).toNat default)=(Q9 0 10000000000000 (l.getD (i:Int).toNat default).least&&Q9 0 10000 (l.getD (i:Int).toNat default).rate&&Q9 0 10000000000000 (l.getD (i:Int).toNat default).amount&&!((l.getD (i:Int).toNat default).rate==0&&(l.getD (i:Int).toNat default).amount==0)&&(i==0||!decide ((l.getD (i:Int).toNat default).least≤(l.getD (i - 1) default).least))) from rfl] at yes no
   generalize Q9 0 10000000000000 (l.getD (i:Int).toNat default).least=b1 at n1 yes no
   generalize Q9 0 10000 (l.getD (i:Int).toNat default).rate=b2 at n2 yes no
   generalize Q9 0 10000000000000 (l.getD (i:Int).toNat default).amount=b3 at n3 yes no
   conv=>whnf
   refine E1 ?_
   refine ⟨[],[],List.range 41,by kernel_rfl,?_⟩
   have step:∀ b4:Bool,b4=((l.getD (i:Int).toNat default).rate==0&&(l.getD (i:Int).toNat default).amount==0)→True:=fun _ _=>trivial
   rcases Nat.eq_zero_or_pos i with h0 | h0
   ·have h1:decide ((i:Int)>0)=false:=decide_eq_false (by omega)
    rw [show (i==0)=true from by rw [h0];rfl,Bool.true_or,Bool.and_true] at yes no
    repeat' ((conv=>whnf);first | refine ⟨rfl,⟨by omega,by omega⟩,?_⟩ | refine ⟨_,N4 n1,?_⟩ | refine ⟨_,N4 n2,?_⟩ | refine ⟨_,N4 n3,?_⟩ | rw [h1] | cases b1 | cases b2 | cases b3 | (refine B9 (fun h=>?_) (fun h=>?_)<;>rw [h] at yes no ⊢))
    all_goals (conv=>whnf)
    all_goals first
     | (rw [no (by rfl)];exact ⟨rfl,rfl⟩)
     | (refine ⟨rfl,?_⟩;conv=>whnf
        exact nx hi' ⟨yes (by rfl),by rw [B8 (by omega)],rfl⟩)
   ·have h1:decide ((i:Int)>0)=true:=decide_eq_true (by omega)
    rw [show (i==0)=false from beq_false_of_ne (by omega),Bool.false_or] at yes no
    have hw:=hw h0
    repeat' ((conv=>whnf);first | refine ⟨rfl,⟨by omega,by omega⟩,?_⟩ | refine ⟨rfl,⟨by rw [hw];omega,by rw [hw];omega⟩,?_⟩ | refine ⟨_,N4 n1,?_⟩ | refine ⟨_,N4 n2,?_⟩ | refine ⟨_,N4 n3,?_⟩ | rw [h1] | cases b1 | cases b2 | cases b3 | (refine B9 (fun h=>?_) (fun h=>?_)<;>rw [h] at yes no ⊢) | (rw [hw];refine B9 (fun h=>?_) (fun h=>?_)))
    all_goals (conv=>whnf)
    all_goals first
     | (rw [no (by rfl)];exact ⟨rfl,rfl⟩)
     | (rw [no (congrArg not h)];exact ⟨rfl,rfl⟩)
     | (refine ⟨rfl,?_⟩;conv=>whnf
        exact nx hi' ⟨yes (congrArg not h),by rw [B8 (by omega)],rfl⟩)
theorem B9O (l:List A0q):(K7 l (A2l l)&&(decide ((l.length:Int)≥1)&&decide ((l.length:Int)≤6)))=X5 l:=by
 unfold X5
 rw [Bool.and_comm]
 congr 1
 ·rw [Bool.not_or];congr 1<;>(rw [←decide_not];exact decide_eq_decide.2 (by omega))
 ·rw [←Bool.coe_iff_coe]
  unfold K7 A2l A3m Q9
  simp only [Bool.and_eq_true,List.all_eq_true,List.mem_range,Bool.not_eq_true',Bool.or_eq_false_iff,Bool.not_eq_false',decide_eq_true_eq,decide_eq_false_iff_not,Bool.or_eq_true,beq_iff_eq]
  constructor
  ·intro h k hk
   obtain ⟨⟨⟨⟨h1,h2⟩,h3⟩,h4⟩,h5⟩:=h k hk
   refine ⟨⟨⟨⟨⟨⟨?_,by omega⟩,by omega⟩,by omega⟩,by omega⟩,by omega⟩,h4⟩
   split
   ·omega
   ·rcases h5 with h5 | h5<;>omega
  ·intro h
   have pos:∀ k,k<l.length→0≤(l.getD k default).least:=fun k=>by
    induction k with
    | zero=>intro hk;have:=(h 0 hk).1.1.1.1.1.1;rw [if_pos rfl] at this;omega
    | succ k ih=>intro hk;have:=(h (k+1) hk).1.1.1.1.1.1;rw [if_neg (by omega),Nat.add_sub_cancel] at this;have:=ih (by omega);omega
   intro k hk
   obtain ⟨⟨⟨⟨⟨⟨h1,h2⟩,h3⟩,h4⟩,h5⟩,h6⟩,h7⟩:=h k hk
   have:=pos k hk
   refine ⟨⟨⟨⟨⟨by omega,by omega⟩,by omega,by omega⟩,by omega,by omega⟩,h7⟩,?_⟩
   by_cases h0:k=0
   ·exact .inl h0
   ·rw [if_neg h0] at h1;exact .inr h1
structure A0V (p:B4):Prop where
 id:Sm p.id.size
 group:Sm p.group.size
 code:Sm p.code.size
 scope:A0X p.scope
 parts:Sm p.parts.length
 part:∀ x∈p.parts,A0X x.scope
 tiers:Sm p.tiers.length
def A5m (l:List S3):Bool:=K7 l (fun _ x=>A0t x)&&(decide ((l.length:Int)≥1)&&decide ((l.length:Int)≤3))
def B0x (p:B4):Bool :=
 if p.kind=1 then (decide (p.rate≥1)&&decide (p.rate≤10000))&&p.amount==0&&(p.buy==0&&p.get==0)&&(p.parts.length:Int)==0&&(p.tiers.length:Int)==0
 else if p.kind=2 then p.rate==0&&decide (p.amount≥1)&&decide (p.amount≤1000000000)&&(p.buy==0&&p.get==0)&&(p.parts.length:Int)==0&&(p.tiers.length:Int)==0
 else if p.kind=3 then (decide (p.rate≥1)&&decide (p.rate≤10000))&&p.amount==0&&decide (p.buy≥1)&&decide (p.buy≤100)&&decide (p.get≥1)&&decide (p.get≤100)&&(p.parts.length:Int)==0&&(p.tiers.length:Int)==0
 else if p.kind=4 then p.rate==0&&Q9 0 10000000000000 p.amount&&(p.buy==0&&p.get==0)&&A5m p.parts&&(p.tiers.length:Int)==0&&((p.scope.skus.length:Int)==0&&(p.scope.cats.length:Int)==0)
 else if p.kind=7 then (decide (p.rate≥1)&&decide (p.rate≤10000))&&p.amount==0&&(p.buy==0&&p.get==0)&&(p.parts.length:Int)==0&&(p.tiers.length:Int)==0&&((p.scope.skus.length:Int)==0&&(p.scope.cats.length:Int)==0)&&!p.closes
 else p.rate==0&&p.amount==0&&(p.buy==0&&p.get==0)&&(p.parts.length:Int)==0&&X5 p.tiers
theorem B8Y (p:B4):(A5m p.parts&&Q9 0 10000000000000 p.amount)=A5W p:=by
 unfold A5m A5W K7 Q9
 rw [←Bool.coe_iff_coe]
 simp only [Bool.and_eq_true,List.all_eq_true,List.mem_range,Bool.not_eq_true',Bool.or_eq_false_iff,decide_eq_true_eq,decide_eq_false_iff_not,List.any_eq_false,Bool.not_eq_false']
 constructor
 ·rintro ⟨⟨h1,h2⟩,h3⟩
  exact ⟨⟨⟨⟨by omega,by omega⟩,by omega⟩,by omega⟩,fun x hx=>by obtain ⟨k,hk,rfl⟩:=E3 hx;rw [h1 k hk];simp⟩
 ·rintro ⟨h1,h2⟩
  exact ⟨⟨fun k hk=>by have:=h2 _ (B3 hk);simpa using this,by omega⟩,by omega⟩
theorem B9d (p:B4) (hk:1≤p.kind∧p.kind≤7):B0x p=(A8r p&&A6p p):=by
 have hb:=B8Y p
 unfold B0x A8r A6p A7v A7w A7x
 rw [←hb]
 rw [A2V,A2V,A2V,A2V]
 have e:(p.scope.skus.length+p.scope.cats.length==0)=(p.scope.skus.length==0&&p.scope.cats.length==0):=by
  rw [←Bool.coe_iff_coe];simp only [Bool.and_eq_true,beq_iff_eq];omega
 have u:∀ m x,Q9 1 m x=true→(x==0)=false:=fun m x h=>by simp only [Q9,Bool.and_eq_true,decide_eq_true_eq] at h;exact beq_false_of_ne (by omega)
 have e4:A5m p.parts=true→(p.parts.length==0)=false:=fun h=>by
  simp only [A5m,Bool.and_eq_true,decide_eq_true_eq] at h;exact beq_false_of_ne (by omega)
 have e5:X5 p.tiers=true→(p.tiers.length==0)=false:=fun h=>by
  simp only [X5,Bool.and_eq_true,Bool.not_eq_true',Bool.or_eq_false_iff,decide_eq_false_iff_not] at h;exact beq_false_of_ne (by omega)
 rw [e]
 rcases (by omega:p.kind=1∨p.kind=2∨p.kind=3∨p.kind=4∨p.kind=5∨p.kind=6∨p.kind=7) with h | h | h | h | h | h | h
 all_goals (rw [h];simp only [show ∀ a b:Int,(if a=b then _ else _)=_ from fun _ _=>rfl,Q9,if_true,if_false,Int.reduceEq,Int.reduceBEq,Bool.true_or,Bool.or_true,Bool.true_and,Bool.and_true,Bool.false_or,Bool.or_false,bne,Bool.not_true,Bool.not_false])
 all_goals (generalize X5 p.tiers=b1 at *;generalize A5m p.parts=b2 at *;generalize (p.parts.length==0)=b3 at *;generalize (p.tiers.length==0)=b4 at *;generalize (p.scope.skus.length==0&&p.scope.cats.length==0)=b5;generalize (p.buy==0&&p.get==0)=b6;generalize (p.rate==0)=b7;generalize (p.amount==0)=b8;generalize decide (p.rate≥1)=b9;generalize decide (p.rate≤10000)=b10)
 all_goals first | done | ac_rfl
theorem B9c (p:B4):H7 p=(F9 p.id&&!decide (p.kind<1)&&!decide (p.kind>7)&&!decide (p.prio<0)&&!decide (p.prio>1000)&&((p.group.toList==(⟨#[]⟩:D6).toList)||F9 p.group)&&((p.code.toList==(⟨#[]⟩:D6).toList)||F9 p.code)&&Z1 p.scope&&Q9 0 10000000000000 p.least&&B0x p):=by
 by_cases hk:1≤p.kind∧p.kind≤7
 ·have e:Q9 0 1000 p.prio=(!decide (p.prio<0)&&!decide (p.prio>1000)):=by
   unfold Q9;congr 1<;>(rw [←decide_not];exact decide_eq_decide.2 (by omega))
  unfold H7 A6o A1W L7
  rw [B9d p hk,e,decide_eq_true (show p.kind≥1 from hk.1),decide_eq_true (show p.kind<8 by omega),decide_eq_false (show ¬ p.kind<1 by omega),decide_eq_false (show ¬ p.kind>7 by omega)]
  simp only [Bool.true_and,Bool.and_true,Bool.not_false,Bool.and_assoc]
 ·have:H7 p=false:=by
   unfold H7
   rw [show (decide (p.kind≥1)&&decide (p.kind<8))=false from by rw [Bool.and_eq_false_iff,decide_eq_false_iff_not,decide_eq_false_iff_not];omega];rfl
  rw [this]
  by_cases h:p.kind<1
  ·rw [decide_eq_true h];simp
  ·rw [decide_eq_true (show p.kind>7 by omega)];simp
set_option maxHeartbeats 8000000 in
theorem B4X (p:B4) (hp:A0V p) (st:St):S P 246 [C0 p] st fun v st'=>v=.bool (H7 p)∧st'=st:=by
 have n1:=A2Z p.id hp.id st
 have n2:=A2Z p.group hp.group st
 have n3:=A2Z p.code hp.code st
 have n4:=B4Z p.scope hp.scope st
 have n5:=A2c p.least 10000000000000 st
 have n6:=A2c p.amount 10000000000000 st
 have n7:=C2e p.parts hp.parts hp.part st
 have n8:=C2g p.tiers hp.tiers st
 rw [B9O] at n8
 rw [show (K7 p.parts (fun _ x=>A0t x)&&(decide ((p.parts.length:Int)≥1)&&decide ((p.parts.length:Int)≤3)))=A5m p.parts from rfl] at n7
 have hC:=B9c p
 generalize hb5:Q9 0 10000000000000 p.least=b5 at *
 generalize hb6:Q9 0 10000000000000 p.amount=b6 at *
 generalize hb7:A5m p.parts=b7 at *
 generalize hb8:X5 p.tiers=b8 at *
 generalize H7 p=R at *
 clear hp hb5
 obtain ⟨id,kind,prio,group,code,closes,scope,least,rate,amount,buy,get,parts,tiers⟩:=p
 simp only at *
 generalize F9 id=b1 at *
 generalize F9 group=b2 at *
 generalize F9 code=b3 at *
 generalize Z1 scope=b4 at *
 obtain ⟨H,hH⟩:∃ H:Bool,H=(b1&&!decide (kind<1)&&!decide (kind>7)&&!decide (prio<0)&&!decide (prio>1000)&&((group.toList==(⟨#[]⟩:D6).toList)||b2)&&((code.toList==(⟨#[]⟩:D6).toList)||b3)&&b4&&b5):=⟨_,rfl⟩
 rw [←hH] at hC
 obtain ⟨q,hq⟩:∃ q:B4,q=⟨id,kind,prio,group,code,closes,scope,least,rate,amount,buy,get,parts,tiers⟩:=⟨_,rfl⟩
 have hB:∀ h:buy=q.buy,True:=fun _=>trivial
 refine C0f [1] [(1,[1,67]),(3,[1,3,4,5,6,7]),(4,[1,3,4,5,6,7,8]),(5,[1,3,4,5,6,7,8,9])] C1b mixed Tryz.func246 (by rfl) rfl rfl rfl ?_;conv=>whnf
 refine ⟨fun us s=>us=[.fptr (C0 ⟨id,kind,prio,group,code,closes,scope,least,rate,amount,buy,get,parts,tiers⟩) 0,.bool (!H)]∧s=st,?_,?_⟩
 ·repeat' ((conv=>whnf);first | refine C5 n1 ?_ | refine C5 n2 ?_ | refine C5 n3 ?_ | refine C5 n4 ?_ | refine C5 n5 ?_ | refine ⟨rfl,?_⟩ | (refine B9 (fun h=>?_) (fun h=>?_)<;>rw [h]))
  all_goals (refine ⟨?_,rfl⟩;refine congrArg (fun b=>[_,AV.bool b]) ?_;rw [hH];clear hH hC n1 n2 n3 n4 n5 n6 n7 n8)
  all_goals (simp only [Bool.not_eq_true',Bool.not_eq_false'] at *;simp only [*,Bool.true_and,Bool.false_and,Bool.and_true,Bool.and_false,Bool.or_true,Bool.or_false,Bool.true_or,Bool.false_or,Bool.not_true,Bool.not_false,Bool.not_not])
 rintro vs s ⟨rfl,rfl⟩
 conv=>whnf
 refine B9 (fun h=>?_) (fun h=>?_)<;>rw [h]
 ·conv=>whnf
  exact ⟨by rw [hC,show H=false by simpa using h];rfl,rfl⟩
 have hT:R=B0x q:=by rw [hC,show H=true by simpa using h,hq];rfl
 clear hC h n1 n2 n3 n4 n5 hH
 conv=>whnf
 refine ⟨fun us s'=>us=[.fptr (C0 ⟨id,kind,prio,group,code,closes,scope,least,rate,amount,buy,get,parts,tiers⟩) 0,.bool (rate==0),.bool (amount==0),.bool (buy==0&&get==0),.bool ((parts.length:Int)==0),.bool ((tiers.length:Int)==0)]∧s'=s,?_,?_⟩
 ·refine .inl ⟨[],[],List.range 27,by kernel_rfl,?_⟩
  repeat' ((conv=>whnf);first | refine ⟨rfl,?_⟩ | (refine B9 (fun h=>?_) (fun h=>?_)<;>rw [h]))
  all_goals rfl
 rintro vs s ⟨rfl,rfl⟩
 conv=>whnf
 refine ⟨fun us s'=>us=[.fptr (C0 ⟨id,kind,prio,group,code,closes,scope,least,rate,amount,buy,get,parts,tiers⟩) 0,.bool (rate==0),.bool (amount==0),.bool (buy==0&&get==0),.bool ((parts.length:Int)==0),.bool ((tiers.length:Int)==0),.bool ((scope.skus.length:Int)==0&&(scope.cats.length:Int)==0)]∧s'=s,?_,?_⟩
 ·repeat' ((conv=>whnf);first | refine ⟨rfl,?_⟩ | (refine B9 (fun h=>?_) (fun h=>?_)<;>rw [h]))
  all_goals rfl
 rintro vs s ⟨rfl,rfl⟩
 conv=>whnf
 refine ⟨fun us s'=>us=[.fptr (C0 ⟨id,kind,prio,group,code,closes,scope,least,rate,amount,buy,get,parts,tiers⟩) 0,.bool (rate==0),.bool (amount==0),.bool (buy==0&&get==0),.bool ((parts.length:Int)==0),.bool ((tiers.length:Int)==0),.bool ((scope.skus.length:Int)==0&&(scope.cats.length:Int)==0),.bool (decide (rate≥1)&&decide (rate≤10000))]∧s'=s,?_,?_⟩
 ·repeat' ((conv=>whnf);first | refine ⟨rfl,?_⟩ | (refine B9 (fun h=>?_) (fun h=>?_)<;>rw [h]))
  all_goals rfl
 rintro vs s ⟨rfl,rfl⟩
 subst hq
 unfold B0x at hT
 simp only [hb6,hb7,hb8] at hT
 generalize (rate==0)=a1 at *
 generalize (amount==0)=a2 at *
 generalize (buy==0&&get==0)=a3 at *
 generalize ((parts.length:Int)==0)=a4 at *
 generalize ((tiers.length:Int)==0)=a5 at *
 generalize ((scope.skus.length:Int)==0&&(scope.cats.length:Int)==0)=a6 at *
 generalize (decide (rate≥1)&&decide (rate≤10000))=a7 at *
 have hk:kind=1∨kind=2∨kind=3∨kind=4∨kind=7∨(kind≠1∧kind≠2∧kind≠3∧kind≠4∧kind≠7):=by omega
 rcases hk with rfl | rfl | rfl | rfl | rfl | ⟨k1,k2,k3,k4,k7⟩
 case' inr.inr.inr.inr.inr =>
  rw [if_neg k1,if_neg k2,if_neg k3,if_neg k4,if_neg k7] at hT
  have e1:=beq_false_of_ne k1
  have e2:=beq_false_of_ne k2
  have e3:=beq_false_of_ne k3
  have e4:=beq_false_of_ne k4
  have e7:=beq_false_of_ne k7
 all_goals try simp only [if_true,if_false,Int.reduceEq] at hT
 all_goals repeat' ((conv=>whnf);first | refine C5 n6 ?_ | refine C5 n7 ?_ | refine C5 n8 ?_ | rw [e1] | rw [e2] | rw [e3] | rw [e4] | rw [e7] | (refine B9 (fun h=>?_) (fun h=>?_)<;>rw [h]))
 all_goals (conv=>whnf)
 all_goals (refine ⟨?_,rfl⟩;show AV.bool _=AV.bool _;rw [hT];clear hT n6 n7 n8;try simp only [Bool.not_eq_true',Bool.not_eq_false'] at *)
 all_goals (simp only [*,Bool.true_and,Bool.false_and,Bool.and_true,Bool.and_false,Bool.or_true,Bool.or_false,Bool.true_or,Bool.false_or,Bool.not_true,Bool.not_false,Bool.not_not])
theorem A6I (p:B4) (hp:A0V p) (hC:H7 p=true) (st:St):S P 246 [C0 p] st fun v st'=>v=.bool true∧st'=st:=by
 have h:=B4X p hp st
 rw [hC] at h;exact h
theorem B9t (x rate round:Int) (st:St):S P 169 [eI x,eI rate,eI round] st fun v st'=>v=.tuple [eI (if 0≤rate∧rate≤10000 then V8 x rate 10000 round else (0,2)).1,eI (if 0≤rate∧rate≤10000 then V8 x rate 10000 round else (0,2)).2]∧st'=st:=by
 refine SyW [] Tryz.func169 ?_
 repeat' ((conv=>whnf);first | refine C5 (B0M _ _ _ _ st) ?_ | (refine B9 (fun h=>?_) (fun h=>?_)<;>rw [h]))
 all_goals (conv=>whnf)
 all_goals (refine ⟨?_,rfl⟩;simp only [decide_eq_true_eq,decide_eq_false_iff_not] at *)
 ·rw [if_neg (by omega)];rfl
 ·rw [if_neg (by omega)];rfl
 ·rw [if_pos (by omega)];rfl
theorem A7G (x rate:Int) (st:St):S P 92 [eI x,eI rate] st fun v st'=>v=eI (J2 x rate)∧st'=st:=by
 refine G0 [] Tryz.func92 ?_
 refine I2 (B9t x rate 1 st) ?_
 exact ⟨rfl,rfl⟩
theorem A8A (l:List Int) (hl:l.length≤1000000) (h0:∀ x∈l,0≤x) (hs:A7 l≤100000000000000000) (st:St):S P 119 [A8 l] st fun v st'=>v=eI (A7 l)∧st'=st:=by
 refine G0 [] Tryz.func119 ?_
 refine lp l.length [0,3,4] (fun i vs s=>vs=[A8 l,eI (A7 (l.take i)),eI i]∧s=st) ?_ ?_
 ·conv=>whnf
  exact ⟨rfl,rfl⟩
 ·rintro i vs st' hi ⟨rfl,rfl⟩
  conv=>whnf
  cases h:decide ((i:Int)<(l.length:Int))
  ·obtain rfl:=C6 h hi
   conv=>whnf
   exact ⟨by rw [List.take_length];rfl,rfl⟩
  ·have hi':=E4 h
   have e:=L6 hi'
   have h1:=C4 (l:=l.take i) (fun x hx=>h0 x (List.take_subset _ _ hx))
   have h2:=K1 h0 (i+1)
   have h3:=h0 _ (B3 hi')
   have h4:gI l i=l.getD i default:=rfl
   have w:IntKind.i64.wrap (A7 (l.take i)+l.getD (i:Int).toNat default)=A7 (l.take (i+1)):=by rw [e];exact A9 (by rw [Int.toNat_natCast];omega) (by rw [Int.toNat_natCast];omega)
   conv=>whnf
   refine E1 ?_
   rw [w]
   refine G7 ?_
   exact nx hi' ⟨by rw [B8 (by omega)],rfl⟩
theorem A5Z (us:List B5) (mine:List Int) (hl:mine.length≤1000000) (hm:∀ k,k<mine.length→0≤gI mine k∧(gI mine k).toNat<us.length) (st:St):S P 165 [D1 us,A8 mine] st fun v st'=>v=A8 (F0 us mine)∧st'=st:=by
 refine A1s (ty:=2) ?_
 refine G0 [] Tryz.func165 ?_
 refine lp mine.length [0,1,5,6] (fun i vs s=>∃ sv,vs=[D1 us,A8 mine,sv,eI i]∧F3 2 1 eI (F0 us (mine.take i)) st sv s) ?_ ?_
 ·conv=>whnf
  exact ⟨.emp,rfl,F3.start _ _ _ _⟩
 ·rintro i vs st' hi ⟨sv,rfl,hc⟩
  conv=>whnf
  cases h:decide ((i:Int)<(mine.length:Int))
  ·obtain rfl:=C6 h hi
   rw [List.take_length] at hc;conv=>whnf
   exact hc
  ·have hi':=E4 h
   have hx:=hm i hi'
   have hlen:(F0 us (mine.take i)).length=i:=by unfold F0;rw [List.length_map,List.length_take];omega
   conv=>whnf
   refine E1 ?_
   refine ⟨rfl,⟨by show 0≤gI mine i;omega,by show gI mine i<(us.length:Int);omega⟩,?_⟩;conv=>whnf
   refine F3.app (q:=r2) (y:=(gU us (gI mine i).toNat).net) rfl rfl rfl rfl rfl rfl (by show (_+1) * 8≤140737488355328;omega) hc (fun sv' s' hc'=>?_);conv=>whnf
   refine G7 ?_
   refine nx hi' ⟨sv',by rw [B8 (by omega)],?_⟩
   unfold F0 at hc' ⊢
   rw [A2K hi'];exact hc'
def A3L (total:Int) (ws:List Int):List Int:=(List.range ws.length).map fun k=>total * gI ws k % A7 ws
theorem C4a {total:Int} {ws:List Int} {o:List Int} (hp:o.Perm (A3C ws.length)) (hs:o.Pairwise (B2w (A3L total ws))):o=(shR total (A7 ws) ws).map (·.2):=by
 have e:o.map (B0G (A3L total ws))=shR total (A7 ws) ws:=by
  refine List.Perm.eq_of_pairwise (le:=fun a b=>H1 b a=false) (fun a b _ _ h1 h2=>A3F h2 h1) (List.pairwise_map.2 hs) (A6L ..) (((hp.map _).trans ?_).trans (A1N ..).symm)
  unfold A3C
  rw [List.map_map]
  refine List.Perm.of_eq (List.map_congr_left fun k hk=>?_)
  have:=List.mem_range.1 hk
  show (gI (A3L total ws) ((k:Int).toNat),(k:Int))=shE total (A7 ws) ws k
  unfold A3L
  rw [Int.toNat_natCast,L5 _ this];rfl
 rw [←e,List.map_map]
 conv=>lhs;rw [←List.map_id o]
 rfl
theorem C1j {total:Int} {ws:List Int} (h:Q0 total ws):D7 total ws=R3 ((List.range ws.length).map (shQ total (A7 ws) ws)) ((shR total (A7 ws) ws).take (G9 total (A7 ws) ws ws.length).toNat)∧0≤G9 total (A7 ws) ws ws.length∧G9 total (A7 ws) ws ws.length≤ws.length:=by
 by_cases hS:A7 ws=0
 ·have ht:=h.none hS
  have hq:∀ k,shQ total (A7 ws) ws k=0:=fun k=>by unfold shQ;rw [ht,Int.zero_mul,Int.zero_ediv]
  have hl:G9 total (A7 ws) ws ws.length=0:=by
   unfold G9
   rw [show (List.range ws.length).map (shQ total (A7 ws) ws)=List.replicate ws.length 0 from by
    rw [List.eq_replicate_iff]
    exact ⟨by simp,fun b hb=>by obtain ⟨k,_,rfl⟩:=List.mem_map.1 hb;exact hq k⟩,ht]
   have:∀ n,A7 (List.replicate n 0)=0:=fun n=>by
    induction n with
    | zero=>rfl
    | succ n ih=>rw [List.replicate_succ',G6,ih];rfl
   rw [this];rfl
  refine ⟨?_,by omega,by omega⟩
  rw [hl]
  unfold D7
  rw [if_pos hS]
  show ws.map (fun _=>0)=R3 _ []
  unfold R3
  refine List.ext_getElem (by simp) fun k h1 h2=>?_
  simp [hq]
 ·have hS':0<A7 ws:=by have:=C4 h.w0;omega
  refine ⟨?_,A2A h hS'⟩
  unfold D7;rw [if_neg hS]
set_option maxHeartbeats 1000000 in
theorem A6K (total:Int) (ws:List Int) (h:Q0 total ws) (st:St):S P 253 [eI total,A8 ws] st fun v st'=>v=.tuple [A8 (D7 total ws),eI 0]∧st'=st:=by
 obtain ⟨hR,hl0,hl1⟩:=C1j h
 have hlen:=h.len
 have hS0:=C4 h.w0
 have hSm:=h.sum
 have ht0:=h.t0
 have ht1:=h.t1
 refine S.post (post:=fun v st'=>∃ (bo:Nat) (f:Nat→AV),st bo=none∧v=.tuple [.own 1 bo 0 ws.length,eI 0]∧st'=upd st bo ⟨2,1,ws.length,f⟩∧∀ k,k<ws.length→f k=eI (gI (D7 total ws) k)) ?_
  (fun v st' ⟨bo,f,hb,hv,hs,hf⟩=>⟨_,st,⟨rfl,rfl⟩,by
   subst hv;subst hs
   have hL:(D7 total ws).length=ws.length:=by rw [hR,A1u];simp
   have e:A8 (D7 total ws)=.arr 1 ws.length (fun k=>eI (gI (D7 total ws) k)):=by unfold A8 B1;rw [hL]
   rw [e]
   have h2:=G5 (st:=upd st bo ⟨2,1,ws.length,f⟩) (e:=1) (b:=bo) (n:=ws.length) (f:=fun k=>eI (gI (D7 total ws) k)) (A0 ..) rfl (Nat.le_refl _) hf
   rw [A2O hb] at h2
   exact B0.tuple (B0.cons h2 (B0.keep _ _)) rfl⟩)
 refine G0 [] Tryz.func253 ?_
 refine C5 (A1M total st) ?_
 rw [(A0I total).2 ⟨ht0,ht1⟩];conv=>whnf
 rw [decide_eq_false (show ¬(ws.length:Int)>100000 by omega)];conv=>whnf
 refine lp ws.length [0,1,6] (fun i vs s=>vs=[eI total,A8 ws,eI i]∧s=st) ?_ ?_
 ·conv=>whnf
  exact ⟨rfl,rfl⟩
 ·rintro i vs st' hi ⟨rfl,rfl⟩
  conv=>whnf
  cases hd:decide ((i:Int)<(ws.length:Int))
  case true =>
   have hi':=E4 hd
   have hm:=B3 hi'
   conv=>whnf
   refine E1 ?_
   refine C5 (A1M _ _) ?_
   rw [(A0I (ws.getD (i:Int).toNat default)).2 ⟨h.w0 _ hm,Int.le_trans (I9 h.w0 hm) hSm⟩];conv=>whnf
   refine G7 ?_
   exact nx hi' ⟨by rw [B8 (by omega)],rfl⟩
  clear hd
  conv=>whnf
  refine lp ws.length [0,1,7,8] (fun i vs s=>vs=[eI total,A8 ws,eI (A7 (ws.take i)),eI i]∧s=st') ?_ ?_
  ·conv=>whnf
   exact ⟨rfl,rfl⟩
  ·clear hi
   rintro i vs st hi ⟨rfl,rfl⟩
   conv=>whnf
   cases hd:decide ((i:Int)<(ws.length:Int))
   case true =>
    have hi':=E4 hd
    have e:=L6 hi'
    have h1:=C4 (l:=ws.take i) (fun x hx=>h.w0 x (List.take_subset _ _ hx))
    have h2:=K1 h.w0 (i+1)
    have h3:=h.w0 _ (B3 hi')
    have w:IntKind.i64.wrap (A7 (ws.take i)+ws.getD (i:Int).toNat default)=A7 (ws.take (i+1)):=by rw [e];exact A9 (by rw [Int.toNat_natCast];omega) (by rw [Int.toNat_natCast];show A7 (ws.take i)+gI ws i≤_;omega)
    conv=>whnf
    refine E1 ?_
    rw [w,decide_eq_false (show ¬ A7 (ws.take (i+1))>100000000000000 by omega)];conv=>whnf
    refine G7 ?_
    exact nx hi' ⟨by rw [B8 (by omega)],rfl⟩
   obtain rfl:=C6 hd hi
   rw [List.take_length]
   have hz:(A7 ws==0)=true→(total != 0)=false:=fun e=>by rw [h.none (eq_of_beq e)];rfl
   cases h0:(A7 ws==0)
   case' true =>
    conv=>whnf
    rw [h0];conv=>whnf
    rw [hz h0]
   case' false =>
    conv=>whnf
    rw [h0]
   all_goals (conv=>whnf)
   all_goals refine mkO rfl rfl rfl (by show 8 * ws.length≤_;omega) (by omega) (by rfl) (fun b1 hb1=>?_)
   all_goals (conv=>whnf)
   all_goals refine mkO rfl rfl rfl (by show 8 * ws.length≤_;omega) (by omega) (by rfl) (fun b2 hb2=>?_)
   all_goals (conv=>whnf)
   all_goals
    have hne:b1≠b2:=fun e=>by subst e;rw [A0] at hb2;cases hb2
    have hb2':st b2=none:=by rw [A6 hne.symm] at hb2;exact hb2
    refine lp ws.length [0,1,7,9,10,11,12] (fun i vs s=>vs=[eI total,A8 ws,eI (A7 ws),.own 1 b1 0 ws.length,.own 1 b2 0 ws.length,eI (G9 total (A7 ws) ws i),eI i]∧(A7 ws=0→i=0)∧∃ f1 f2,s=upd (upd st b1 ⟨2,1,ws.length,f1⟩) b2 ⟨2,1,ws.length,f2⟩∧∀ k,k<ws.length→f1 k=eI (if k<i then shQ total (A7 ws) ws k else 0)∧f2 k=eI (if k<i then total * gI ws k % A7 ws else 0)) ?_ ?_
    ·conv=>whnf
     exact ⟨by rw [show G9 total (A7 ws) ws 0=total from by unfold G9;simp [A7]];rfl,fun _=>rfl,_,_,rfl,fun k hk=>⟨by rw [if_neg (by omega)];rfl,by rw [if_neg (by omega)];rfl⟩⟩
    ·rintro i vs s hi ⟨rfl,hSi,f1,f2,rfl,hf⟩
     conv=>whnf
     have fin:(∀ k,k<ws.length→f1 k=eI (shQ total (A7 ws) ws k)∧f2 k=eI (total * gI ws k % A7 ws))→G9 total (A7 ws) ws i=G9 total (A7 ws) ws ws.length→True:=fun _ _=>trivial
     have hend:(i=ws.length∨A7 ws=0)→(∀ k,k<ws.length→f1 k=eI (shQ total (A7 ws) ws k)∧f2 k=eI (total * gI ws k % A7 ws))∧G9 total (A7 ws) ws i=G9 total (A7 ws) ws ws.length:=fun hE=>by
      rcases hE with hE | hE
      ·subst hE
       exact ⟨fun k hk=>by have:=hf k hk;rwa [if_pos hk,if_pos hk] at this,rfl⟩
      ·have hi0:=hSi hE
       have ht:=h.none hE
       have hq:∀ k,shQ total (A7 ws) ws k=0:=fun k=>by unfold shQ;rw [ht,Int.zero_mul,Int.zero_ediv]
       have hz:∀ n,A7 ((List.range n).map (shQ total (A7 ws) ws))=0:=fun n=>by
        induction n with
        | zero=>rfl
        | succ n ih=>rw [K9,ih,hq];rfl
       refine ⟨fun k hk=>?_,?_⟩
       ·have:=hf k hk
        rw [if_neg (by omega),if_neg (by omega)] at this
        rw [hq,ht,Int.zero_mul,Int.zero_emod];exact this
       ·unfold G9;rw [hz,hz]
     cases hd:decide ((i:Int)<(ws.length:Int))
     case' false =>
      have hE:=hend (.inl (C6 hd hi))
      conv=>whnf
     case' true =>
      have hi':=E4 hd
      conv=>whnf
      cases hp:decide (A7 ws>0)
      case' false =>
       have hE:=hend (.inr (by have:=of_decide_eq_false hp;omega))
       conv=>whnf
      case' true =>
       have hS:0<A7 ws:=of_decide_eq_true hp
       have hm:gI ws i∈ws:=B3 hi'
       have hqb:=A4u h hS (show i≤ws.length by omega)
       have hqb':=A4u h hS (show i+1≤ws.length by omega)
       have hsr:=K9 (shQ total (A7 ws) ws) i
       have hq:=A3M h hS hi'
       have hpt:=B0L total (gI ws i) (A7 ws) ht0 ht1 (h.w0 _ hm) (Int.le_trans (I9 h.w0 hm) hSm) hS hSm (upd (upd st b1 ⟨2,1,ws.length,f1⟩) b2 ⟨2,1,ws.length,f2⟩)
       unfold A8s at hpt
       rw [if_neg (by have:total * gI ws i / A7 ws≤total:=hq.2;omega)] at hpt;conv=>whnf
       refine E1 ?_
       refine I2 hpt ?_
       refine E1 ?_
       refine stU (by rw [A6 hne];exact A0 ..) (hf _ (by omega)).1 ?_
       rw [Q8 hne.symm,B7];conv=>whnf
       refine E1 ?_
       refine stU (A0 ..) (hf _ (by omega)).2 ?_
       rw [B7];conv=>whnf
       refine E1 ?_
       refine F2 (by rw [A6 hne];exact A0 ..) (A5 ..) ?_
       refine G7 ?_
       have e:IntKind.i64.wrap (G9 total (A7 ws) ws i - total * gI ws i / A7 ws)=G9 total (A7 ws) ws (i+1):=by
        unfold G9
        have:total * gI ws i / A7 ws=shQ total (A7 ws) ws i:=rfl
        rw [this,A9 (by omega) (by omega)];omega
       refine nx hi' ⟨by rw [B8 (by omega),e],fun e=>by omega,_,_,rfl,fun k hk=>?_⟩
       rw [show 0+(i:Int).toNat=i by omega]
       by_cases e1:k=i
       ·subst e1;rw [A5,A5]
        refine ⟨?_,?_⟩
        ·show eI (shQ total (A7 ws) ws k)=_;rw [if_pos (by omega)]
        ·show eI (total * gI ws k % A7 ws)=_;rw [if_pos (by omega)]
       ·have h7:=hf k hk
        rw [H3 e1,H3 e1]
        by_cases h8:k<i
        ·rw [if_pos h8,if_pos h8] at h7;rw [if_pos (by omega),if_pos (by omega)];exact h7
        ·rw [if_neg h8,if_neg h8] at h7;rw [if_neg (by omega),if_neg (by omega)];exact h7
     all_goals
      obtain ⟨hE1,hE2⟩:=hE
      clear hend hf fin hSi
      rw [hE2]
      have hres:A3L total ws=A3L total ws:=rfl
      have hrl:(A3L total ws).length=ws.length:=by unfold A3L;simp
      have eA:A8 (A3L total ws)=.arr 1 ws.length (fun k=>eI (gI (A3L total ws) k)):=by unfold A8 B1;rw [hrl]
      refine F4 (args':=[A8 (A3L total ws)]) (by
       rw [eA]
       exact G5 (A0 ..) rfl (Nat.le_refl _) (fun k hk=>by show f2 k=_;rw [(hE1 k hk).2];unfold A3L;rw [L5 _ hk])) (call (B4V (A3L total ws) (by omega) _) (fun v s2 hv=>?_))
      obtain ⟨⟨o,ho1,ho2,rfl⟩,rfl⟩:=hv
      rw [hrl] at ho1
      have hoS:=C4a ho1 ho2
      have hol:o.length=ws.length:=by rw [ho1.length_eq,A8o]
      have hog:∀ k,k<ws.length→gI o k=(at_ (shR total (A7 ws) ws) k).2:=fun k hk=>by
       rw [hoS];exact E6 (fun e:QE=>e.2) _ (by rw [A6a];exact hk)
      have hdl:del (upd (upd st b1 ⟨2,1,ws.length,f1⟩) b2 ⟨2,1,ws.length,f2⟩) b2=upd st b1 ⟨2,1,ws.length,f1⟩:=A2O (by rw [A6 hne.symm];exact hb2') _
      rw [hdl];conv=>whnf
      refine lp (G9 total (A7 ws) ws ws.length).toNat [9,11,13,14] (fun i vs s=>vs=[.own 1 b1 0 ws.length,eI (G9 total (A7 ws) ws ws.length),A8 o,eI i]∧∃ f,s=upd st b1 ⟨2,1,ws.length,f⟩∧∀ k,k<ws.length→f k=eI (gI (R3 ((List.range ws.length).map (shQ total (A7 ws) ws)) ((shR total (A7 ws) ws).take i)) k)) ?_ ?_
      ·conv=>whnf
       exact ⟨rfl,f1,rfl,fun k hk=>by rw [(hE1 k hk).1];show _=eI (gI ((List.range ws.length).map _) k);rw [L5 _ hk]⟩
      ·rintro t vs s ht ⟨rfl,f,rfl,hf⟩
       conv=>whnf
       cases hd2:decide ((t:Int)<G9 total (A7 ws) ws ws.length)
       ·have:t=(G9 total (A7 ws) ws ws.length).toNat:=by have:=of_decide_eq_false hd2;omega
        subst this;conv=>whnf
        exact ⟨b1,f,hb1,rfl,rfl,by rw [hR];exact hf⟩
       ·have ht':(t:Int)<G9 total (A7 ws) ws ws.length:=of_decide_eq_true hd2
        have hx:0≤(at_ (shR total (A7 ws) ws) t).2∧(at_ (shR total (A7 ws) ws) t).2.toNat<ws.length:=A9t (total:=total) (S:=A7 ws) (ws:=ws) (B3 (l:=shR total (A7 ws) ws) (i:=t) (by rw [A6a];omega))
        have hgo:=hog t (by omega)
        have htk:=J0 (l:=shR total (A7 ws) ws) (i:=t) (by rw [A6a];omega)
        have hb1:=A4d ((List.range ws.length).map (shQ total (A7 ws) ws)) ((shR total (A7 ws) ws).take t) (at_ (shR total (A7 ws) ws) t).2.toNat
        rw [L5 _ hx.2,List.length_take] at hb1
        have hqq:0≤shQ total (A7 ws) ws (at_ (shR total (A7 ws) ws) t).2.toNat∧shQ total (A7 ws) ws (at_ (shR total (A7 ws) ws) t).2.toNat≤100000000000000:=by
         by_cases hS:A7 ws=0
         ·unfold shQ;rw [h.none hS,Int.zero_mul,Int.zero_ediv];omega
         ·have:=A3M h (show 0<A7 ws by omega) hx.2;omega
        have hx2:0≤gI o t∧(gI o t).toNat<ws.length:=by rw [hgo];exact hx
        conv=>whnf
        refine E1 ?_
        refine ⟨rfl,⟨by show 0≤gI o t;omega,by show gI o t<(ws.length:Int);omega⟩,?_⟩;conv=>whnf
        refine ldV (A0 ..) rfl (by show 0+(gI o t).toNat<_;omega) (hf _ (by show 0+(gI o t).toNat<_;omega)) ?_;conv=>whnf
        refine ⟨rfl,⟨by show 0≤gI o t;omega,by show gI o t<(ws.length:Int);omega⟩,?_⟩;conv=>whnf
        refine stV (A0 ..) rfl (by show 0+(gI o t).toNat<_;omega) (hf _ (by show 0+(gI o t).toNat<_;omega)) (by rfl) ?_
        rw [B7];conv=>whnf
        refine G7 ?_
        refine nx (by omega) ⟨by rw [B8 (by omega)],_,rfl,fun k hk=>?_⟩
        rw [htk,A8I,C1a (by rw [A1u];simpa using hx.2)]
        show C9 f (0+(gI o t).toNat) (eI (IntKind.i64.wrap (gI (R3 _ _) (0+(gI o t).toNat)+1))) k=_
        rw [Nat.zero_add,hgo]
        by_cases e1:k=(at_ (shR total (A7 ws) ws) t).2.toNat
        ·rw [if_pos e1,e1,A5,A9 (by omega) (by omega)]
        ·rw [if_neg e1,H3 e1];exact hf k hk
theorem B6z (us:List B5) (mine:List Int) (h:E8 us) (hm:N0 us mine) (st:St):S P 248 [D1 us,A8 mine] st fun v st'=>v=.bool true∧st'=st:=by
 have hlen:=h.len
 have hml:=hm.len
 refine G0 [] Tryz.func248 ?_
 rw [decide_eq_false (show ¬(us.length:Int)>100000 by omega)];conv=>whnf
 refine lp us.length [0,1,5,6] (fun i vs s=>vs=[D1 us,A8 mine,eI (A7 ((E2 us).take i)),eI i]∧s=st) ?_ ?_
 ·conv=>whnf
  exact ⟨rfl,rfl⟩
 ·rintro i vs st' hi ⟨rfl,rfl⟩
  conv=>whnf
  cases hd:decide ((i:Int)<(us.length:Int))
  case true =>
   have hi':=E4 hd
   have e:=L6 (l:=E2 us) (i:=i) (by rw [List.length_map];exact hi')
   have e4:gI (E2 us) i=(gU us i).net:=E6 B5.net us hi'
   have h1:=C4 (l:=(E2 us).take i) (fun x hx=>h.nets0 x (List.take_subset _ _ hx))
   have h2:=K1 h.nets0 (i+1)
   have h3:=h.sum
   have h4:=h.at0 i
   have h5:=h.le (B3 hi')
   have w:IntKind.i64.wrap (A7 ((E2 us).take i)+(us.getD (i:Int).toNat default).net)=A7 ((E2 us).take (i+1)):=by rw [e,e4];exact A9 (by rw [Int.toNat_natCast];show _≤A7 ((E2 us).take i)+(gU us i).net;omega) (by rw [Int.toNat_natCast];show A7 ((E2 us).take i)+(gU us i).net≤_;omega)
   have f1:decide ((us.getD (i:Int).toNat default).net<0)=false:=decide_eq_false (by rw [Int.toNat_natCast];show ¬(gU us i).net<0;omega)
   have f2:decide ((us.getD (i:Int).toNat default).net>10000000000000)=false:=decide_eq_false (by rw [Int.toNat_natCast];omega)
   have f3:decide (A7 ((E2 us).take (i+1))>10000000000000)=false:=decide_eq_false (by omega)
   repeat' ((conv=>whnf);first | refine ⟨rfl,⟨by omega,by omega⟩,?_⟩ | rw [f1] | rw [f2] | rw [w,f3])
   conv=>whnf
   refine G7 ?_
   exact nx hi' ⟨by rw [B8 (by omega)],rfl⟩
  conv=>whnf
  refine lp mine.length [0,1,7] (fun i vs s=>vs=[D1 us,A8 mine,eI i]∧s=st') ?_ ?_
  ·conv=>whnf
   exact ⟨rfl,rfl⟩
  ·rintro k vs st hk ⟨rfl,rfl⟩
   conv=>whnf
   cases hd2:decide ((k:Int)<(mine.length:Int))
   ·conv=>whnf
    exact ⟨rfl,rfl⟩
   ·have hk':=E4 hd2
    have hr:0≤mine.getD (k:Int).toNat default∧(mine.getD (k:Int).toNat default).toNat<us.length:=hm.rng k hk'
    have f1:decide (mine.getD (k:Int).toNat default<0)=false:=decide_eq_false (by omega)
    have f2:decide (mine.getD (k:Int).toNat default≥(us.length:Int))=false:=decide_eq_false (by omega)
    have f3:(!(us.getD (mine.getD (k:Int).toNat default).toNat default).opn)=false:=by
     have:=hm.opn k hk'
     rw [Bool.not_eq_false'];exact this
    conv=>whnf
    refine ⟨[],[],List.range 41,by kernel_rfl,?_⟩
    rcases Nat.eq_zero_or_pos k with h0 | h0
    ·have f4:decide ((k:Int)>0)=false:=decide_eq_false (by omega)
     repeat' ((conv=>whnf);first | refine ⟨rfl,⟨by omega,by omega⟩,?_⟩ | rw [f1] | rw [f2] | rw [f3] | rw [f4])
     conv=>whnf
     refine G7 ?_
     exact nx hk' ⟨by rw [B8 (by omega)],rfl⟩
    ·have f4:decide ((k:Int)>0)=true:=decide_eq_true (by omega)
     have hw:=A6t h0 (by omega)
     have f5:decide (mine.getD (k:Int).toNat default≤mine.getD (IntKind.i64.wrap ((k:Int) - 1)).toNat default)=false:=decide_eq_false (by
      rw [hw,Int.toNat_natCast,Int.toNat_natCast]
      have:=hm.lt (k - 1) k (by omega) hk'
      exact Int.not_le.2 this)
     repeat' ((conv=>whnf);first | refine ⟨rfl,⟨by omega,by omega⟩,?_⟩ | refine ⟨rfl,⟨by rw [hw];omega,by rw [hw];omega⟩,?_⟩ | rw [f1] | rw [f2] | rw [f3] | rw [f4] | rw [f5])
     conv=>whnf
     refine G7 ?_
     exact nx hk' ⟨by rw [B8 (by omega)],rfl⟩
theorem B7P (us:List B5) (mine:List Int) (h:E8 us) (hm:N0 us mine) (st:St):S P 249 [D1 us,A8 mine] st fun v st'=>v=A8 ((E5 us mine).map (·.2))∧st'=st:=by
 have hml:=hm.len
 have hul:=h.len
 have hnl:(F0 us mine).length=mine.length:=by unfold F0;rw [List.length_map]
 refine A1s (ty:=3) ?_
 refine G0 [] Tryz.func249 ?_
 refine I2 (A5Z us mine (by omega) hm.rng st) ?_
 refine call (B4V (F0 us mine) (by omega) _) (fun v s hv=>?_)
 obtain ⟨⟨o,ho1,ho2,rfl⟩,rfl⟩:=hv
 rw [hnl] at ho1
 have hol:o.length=mine.length:=by rw [ho1.length_eq,A8o]
 have hom:∀ {k:Nat},k<o.length→0≤gI o k∧(gI o k).toNat<mine.length:=fun hk=>A7y ho1 (fun x hx=>A5V hx) hk
 have he:(E5 us mine).map (·.2)=o.map fun x=>gI mine x.toNat:=by
  have e:o.map (fun x=>B8B us (gI mine x.toNat))=E5 us mine:=by
   refine List.Perm.eq_of_pairwise (le:=fun a b=>H1 b a=false) (fun a b _ _ h1 h2=>A3F h2 h1) (List.pairwise_map.2 ?_) (A4s _) (((ho1.map _).trans ?_).trans (A2y ..).symm)
   ·refine List.Pairwise.imp_of_mem ?_ ho2
    intro a b ha hb hab
    obtain ⟨a0,a1⟩:=A5V (ho1.subset ha)
    obtain ⟨b0,b1⟩:=A5V (ho1.subset hb)
    unfold B2w B0G at hab
    have ea:gI (F0 us mine) a.toNat=(gU us (gI mine a.toNat).toNat).net:=E6 (fun i:Int=>(gU us i.toNat).net) mine a1
    have eb:gI (F0 us mine) b.toNat=(gU us (gI mine b.toNat).toNat).net:=E6 (fun i:Int=>(gU us i.toNat).net) mine b1
    rw [ea,eb,Q7] at hab
    unfold B8B
    rw [Q7]
    simp only at hab ⊢
    rintro (h1 | ⟨h1,h2⟩)
    ·exact hab (.inl h1)
    ·refine hab (.inr ⟨h1,?_⟩)
     refine Int.lt_of_not_ge fun hge=>?_
     rcases Nat.eq_or_lt_of_le (show a.toNat≤b.toNat by omega) with e1 | e1
     ·rw [e1] at h2;omega
     ·have:=hm.lt a.toNat b.toNat e1 b1;omega
   ·unfold A3C
    rw [List.map_map]
    refine List.Perm.of_eq (List.ext_getElem (by simp) fun k h1 h2=>?_)
    have:k<mine.length:=by simpa using h1
    simp [gI,this]
  rw [←e,List.map_map];rfl
 rw [he];conv=>whnf
 refine lp o.length [1,5,6,7] (fun i vs s'=>∃ sv,vs=[A8 mine,A8 o,sv,eI i]∧F3 3 1 eI ((o.take i).map fun x=>gI mine x.toNat) s sv s') ?_ ?_
 ·conv=>whnf
  exact ⟨.emp,rfl,F3.start _ _ _ _⟩
 ·rintro i vs st' hi ⟨sv,rfl,hc⟩
  conv=>whnf
  cases hd:decide ((i:Int)<(o.length:Int))
  ·obtain rfl:=C6 hd hi
   rw [List.take_length] at hc;conv=>whnf
   exact hc
  ·have hi':=E4 hd
   have hx:=hom hi'
   conv=>whnf
   refine E1 ?_
   refine ⟨rfl,⟨by show 0≤gI o i;omega,by show gI o i<(mine.length:Int);omega⟩,?_⟩;conv=>whnf
   refine F3.app (q:=r3) (y:=gI mine (gI o i).toNat) rfl rfl rfl rfl rfl rfl (by show (_+1) * 8≤140737488355328;rw [List.length_map,List.length_take];omega) hc (fun sv' s' hc'=>?_);conv=>whnf
   refine G7 ?_
   refine nx hi' ⟨sv',by rw [B8 (by omega)],?_⟩
   rw [A2K hi'];exact hc'
theorem B7Q (us:List B5) (items:List Ab.Item) (sc:T8) (h1:Sm sc.skus.length) (h2:Sm sc.cats.length) (hu:us.length≤100000) (hl:∀ u∈us,0≤u.line∧u.line.toNat<items.length) (st:St) :
  S P 164 [D1 us,B1 4 F1 items,A3f sc] st fun v st'=>v=A8 (J3 sc items us us.length)∧st'=st:=by
 refine A1s (ty:=3) ?_
 refine G0 [5] Tryz.func164 ?_
 refine lp us.length [0,1,5,7,8] (fun i vs s=>∃ sv,vs=[D1 us,B1 4 F1 items,.fptr (A3f sc) 0,sv,eI i]∧F3 3 1 eI (J3 sc items us i) st sv s) ?_ ?_
 ·conv=>whnf
  exact ⟨.emp,rfl,F3.start _ _ _ _⟩
 ·rintro i vs st' hi ⟨sv,rfl,hc⟩
  conv=>whnf
  cases hd:decide ((i:Int)<(us.length:Int))
  ·obtain rfl:=C6 hd hi
   conv=>whnf
   exact hc
  ·have hi':=E4 hd
   have hlk:0≤(us.getD (i:Int).toNat default).line∧(us.getD (i:Int).toNat default).line.toNat<items.length:=hl _ (B3 hi')
   have es:=B0h sc items us i
   have hpl:=A2p sc items us i
   have eo:A1h sc items (gU us i)=((us.getD (i:Int).toNat default).opn&&A9d sc (items.getD (us.getD (i:Int).toNat default).line.toNat default)):=rfl
   rw [eo] at es
   have n1:=C6c sc (items.getD (us.getD (i:Int).toNat default).line.toNat default) h1 h2 st'
   generalize A9d sc (items.getD (us.getD (i:Int).toNat default).line.toNat default)=b1 at n1 es
   conv=>whnf
   refine ⟨[],[],List.range 17,by kernel_rfl,?_⟩;conv=>whnf
   refine E1 ?_
   cases ho:(us.getD (i:Int).toNat default).opn
   case' true =>
    rw [ho,Bool.true_and] at es;conv=>whnf
    refine E1 ?_
    refine E1 ?_
    refine ⟨_,N4 n1,?_⟩
    cases b1
    case true =>
     rw [if_pos rfl] at es;conv=>whnf
     refine F3.app (q:=r3) (y:=(i:Int)) rfl rfl rfl rfl rfl rfl (by show (_+1) * 8≤140737488355328;omega) hc (fun sv' s' hc'=>?_);conv=>whnf
     refine G7 ?_
     exact nx hi' ⟨sv',by rw [B8 (by omega)],by rw [es];exact hc'⟩
    rw [if_neg (by simp),List.append_nil] at es
   case' false =>
    rw [ho,Bool.false_and,if_neg (by simp),List.append_nil] at es
   all_goals (conv=>whnf)
   all_goals refine ⟨rfl,?_⟩
   all_goals (conv=>whnf)
   all_goals exact nx hi' ⟨sv,by rw [B8 (by omega)],by rw [es];exact hc⟩
theorem B0E (l:List A0q) (x:Int) (hl:l.length≤100000) (st:St):S P 307 [B1 3 Q5 l,eI x] st fun v st'=>v=.tuple [Q5 ((N7 l x).getD default),.bool (N7 l x).isSome]∧st'=st:=by
 refine A2a ?_
 refine G0 [] Tryz.func307 ?_
 intro b hb;conv=>whnf
 have w0:IntKind.i64.wrap ((l.length:Int) - 1)=(l.length:Int) - 1:=A9 (by omega) (by omega)
 refine ⟨[0,1,4,6],fun m vs st'=>∃ (i:Int) (f:Nat→AV) (u:A0q),-1≤i∧i<l.length∧(∀ k:Nat,i<k→k<l.length→decide ((l.getD k default).least≤x)=false)∧m=(i+1).toNat∧vs=[B1 3 Q5 l,eI x,.optr 3 b 0 0,eI i]∧st'=upd st b ⟨250,3,1,f⟩∧f 0=Q5 u,?_,?_⟩
 ·conv=>whnf
  exact ⟨_,(l.length:Int) - 1,_,default,by omega,by omega,fun k h1 h2=>by omega,rfl,by rw [w0],rfl,rfl⟩
 ·rintro m vs st' ⟨i,f,u,h0,hi,hno,rfl,rfl,rfl,hf⟩
  conv=>whnf
  cases h:decide (i≥0)
  ·have:=of_decide_eq_false h
   have hr:N7 l x=none:=A7D fun k hk=>hno k (by omega) hk
   conv=>whnf
   refine N1 (A0 ..) hf ?_
   refine F2 (A0 ..) (A5 ..) ?_
   refine ⟨by rw [hr];rfl,((D8.refl st).upd hb).over hb⟩
  ·have hi0:=of_decide_eq_true h
   conv=>whnf
   refine E1 ?_
   refine B9 (fun h1=>?_) (fun h1=>?_)
   ·have hr:N7 l x=some (l.getD i.toNat default):=A7E (by omega) (fun k h2 h3=>hno k (by omega) h3) h1
    rw [h1];conv=>whnf
    refine E1 ?_
    refine N1 (A0 ..) hf ?_
    refine F2 (A0 ..) (A5 ..) ?_
    refine ⟨by rw [hr];rfl,((D8.refl st).upd hb).over hb⟩
   ·have w:IntKind.i64.wrap (i - 1)=i - 1:=A9 (by omega) (by omega)
    rw [h1];conv=>whnf
    refine G7 ?_
    refine ⟨i.toNat,by omega,i - 1,f,u,by omega,by omega,fun k h2 h3=>?_,by omega,by rw [w],rfl,hf⟩
    rcases (by omega:k=i.toNat∨i<k) with e | e
    ·rw [e];exact h1
    ·exact hno k e h3
def A2b (us:List B5) (mine offs:List Int) (closes:Bool):List B5×Int :=
 if A7 offs=0 then (us,0) else (if closes=true then closeB (D5 us mine offs offs.length) mine else D5 us mine offs offs.length,A7 offs)
theorem A2n {us:List B5} {mine offs:List Int} (h:∀ k,k<offs.length→gI offs k=0):∀ k,k≤offs.length→D5 us mine offs k=us
 | 0,_=>rfl
 | k+1,hk=>by
  unfold D5
  rw [A2n h k (by omega),h k (by omega)]
  unfold less1
  refine List.ext_getElem (by simp) fun j h1 h2=>?_
  rw [List.getElem_set]
  split
  ·rename_i e;subst e
   have e:gU us (gI mine k).toNat=us[(gI mine k).toNat]:=by unfold gU;rw [List.getD_eq_getElem?_getD,List.getElem?_eq_getElem h2];rfl
   rw [e,Int.sub_zero]
  ·rfl
theorem A3d {l:List Int} (h0:∀ x∈l,0≤x) (hs:A7 l=0):∀ k,k<l.length→gI l k=0:=fun k hk=>by
 have h1:=h0 _ (B3 hk)
 have h2:=I9 h0 (B3 hk)
 show l.getD k default=0
 omega
theorem B3r (us:List B5) (mine offs:List Int) (closes:Bool) (hu:E8 us) (hm:X3 us mine) (hml:mine.length≤1000000) (hol:offs.length≤mine.length) (ho:∀ k,k<offs.length→0≤gI offs k∧gI offs k≤(gU us (gI mine k).toNat).net) (hs:A7 offs≤1000000000000000) (st:St) :
  S P 250 [D1 us,A8 mine,A8 offs,eB closes] st fun v st'=>v=.tuple [D1 (A2b us mine offs closes).1,eI (A2b us mine offs closes).2]∧st'=st:=by
 have hul:=hu.len
 have ho0:∀ x∈offs,0≤x:=fun x hx=>by obtain ⟨k,hk,rfl⟩:=E3 hx;exact (ho k hk).1
 refine S.post (post:=fun v st'=>∃ sv,v=.tuple [sv,eI (A2b us mine offs closes).2]∧A4F st (A2b us mine offs closes).1 sv st') ?_
  (fun v st' ⟨sv,hv,h⟩=>⟨_,st,⟨rfl,rfl⟩,by rw [hv];exact B0.tuple (B0.cons h.shift (B0.keep _ _)) rfl⟩)
 refine SyW [] Tryz.func250 ?_
 have nsum:=fun s=>A8A offs (by omega) ho0 (by omega) s
 have hS:A2b us mine offs closes=if A7 offs=0 then (us,0) else (if closes=true then closeB (D5 us mine offs offs.length) mine else D5 us mine offs offs.length,A7 offs):=rfl
 conv=>whnf
 refine apE (q:=B9e) rfl rfl rfl rfl (A6M _ _ _ _) (by show us.length * 24≤_;omega) (fun h0=>?_) (fun h0 b hb=>?_)
 ·have hus:us=[]:=List.eq_nil_of_length_eq_zero h0
  have hmi:mine.length=0:=by
   rcases Nat.eq_zero_or_pos mine.length with e | e
   ·exact e
   ·have:=(hm.rng 0 e).2;omega
  have hof:offs=[]:=List.eq_nil_of_length_eq_zero (by omega)
  have hz:A7 offs=0:=by rw [hof];rfl
  rw [if_pos hz] at hS;conv=>whnf
  refine C5 (nsum _) ?_
  rw [hz];conv=>whnf
  exact ⟨_,by rw [hS];rfl,by rw [hS];exact ⟨D8.refl _,.inl ⟨hus,rfl⟩⟩⟩
 ·conv=>whnf
  refine I2 (nsum _) ?_
  cases hz:(A7 offs==0)
  case true =>
   rw [if_pos (eq_of_beq hz)] at hS;conv=>whnf
   exact ⟨_,by rw [hS];rfl,by rw [hS];exact ⟨(D8.refl _).upd hb,.inr ⟨b,hb,rfl,_,A0 ..,fun k hk=>rfl⟩⟩⟩
  rw [if_neg (ne_of_beq_false hz)] at hS;conv=>whnf
  refine lp offs.length [1,2,3,10,11] (fun i vs s=>vs=[A8 mine,A8 offs,eB closes,.own 3 b 0 us.length,eI i]∧∃ f,s=upd st b ⟨152,3,us.length,f⟩∧∀ j,j<us.length→f j=W8 (gU (D5 us mine offs i) j)) ?_ ?_
  ·conv=>whnf
   exact ⟨rfl,_,rfl,fun j hj=>rfl⟩
  ·rintro i vs s hi ⟨rfl,f,rfl,hf⟩
   conv=>whnf
   cases hd:decide ((i:Int)<(offs.length:Int))
   ·obtain rfl:=C6 hd hi
    have hlt:=P0 us mine offs offs.length
    conv=>whnf
    refine lp mine.length [1,2,3,10,12] (fun i vs s=>(closes=false→i=0)∧vs=[A8 mine,A8 offs,eB closes,.own 3 b 0 us.length,eI i]∧∃ f,s=upd st b ⟨152,3,us.length,f⟩∧∀ j,j<us.length→f j=W8 (gU (closeB (D5 us mine offs offs.length) (mine.take i)) j)) ?_ ?_
    ·conv=>whnf
     exact ⟨fun _=>rfl,rfl,_,rfl,hf⟩
    ·clear hf
     rintro i vs s hi ⟨hci,rfl,f,rfl,hf⟩
     conv=>whnf
     have hend:(i=mine.length∨closes=false)→∀ j,j<us.length→f j=W8 (gU (A2b us mine offs closes).1 j):=fun hE=>by
      intro j hj
      have h7:=hf j hj
      have e1:(A2b us mine offs closes).1=if closes=true then closeB (D5 us mine offs offs.length) mine else D5 us mine offs offs.length:=by rw [hS]
      rw [e1]
      cases hc:closes
      ·rw [hci hc,List.take_zero] at h7;rw [if_neg (by simp)];exact h7
      ·rcases hE with hE | hE
       ·rw [hE,List.take_length] at h7;rw [if_pos rfl];exact h7
       ·rw [hE] at hc;cases hc
     have hlen:(A2b us mine offs closes).1.length=us.length:=by
      rw [hS];show (if closes=true then _ else _:List B5).length=_
      split
      ·rw [A1w,hlt]
      ·exact hlt
     cases hd:decide ((i:Int)<(mine.length:Int))
     case' false =>
      have hE:=hend (.inl (C6 hd hi))
      conv=>whnf
     case' true =>
      have hi':=E4 hd
      conv=>whnf
      cases hc:closes
      case' false =>
       have hE:=hend (.inr hc)
       rw [hc] at hS hlen hE;conv=>whnf
      case' true =>
       have hr:=hm.rng i hi'
       conv=>whnf
       refine E1 ?_
       refine ⟨rfl,⟨by show 0≤gI mine i;omega,by show gI mine i<(us.length:Int);omega⟩,?_⟩;conv=>whnf
       refine stV (A0 ..) rfl (by show 0+(gI mine i).toNat<_;omega) (v:=W8 (gU (closeB (D5 us mine offs offs.length) (mine.take i)) (gI mine i).toNat)) (by rw [Nat.zero_add];exact hf _ hr.2) (by rfl) ?_
       rw [B7];conv=>whnf
       refine G7 ?_
       have e:closeB (D5 us mine offs offs.length) (mine.take (i+1))=close1 (closeB (D5 us mine offs offs.length) (mine.take i)) (gI mine i).toNat:=Q3 hi' _ _
       refine ⟨mine.length - (i+1),by omega,i+1,by omega,rfl,fun e=>Bool.noConfusion e,by rw [B8 (by omega)],_,rfl,fun j hj=>?_⟩
       rw [e,Nat.zero_add,show (mine.getD (i:Int).toNat default).toNat=(gI mine i).toNat from rfl]
       unfold close1
       rw [A4Z (by rw [A1w,hlt];exact hr.2)]
       by_cases hj2:j=(gI mine i).toNat
       ·rw [if_pos hj2,hj2,A5];rfl
       ·rw [if_neg hj2,H3 hj2];exact hf j hj
     all_goals
      refine I2 (nsum _) ?_
      refine ⟨.own 3 b 0 us.length,by rw [hS];rfl,(D8.refl st).upd hb,.inr ⟨b,hb,by rw [hlen],f,by rw [hlen];exact A0 ..,fun k hk=>?_⟩⟩
      rw [hlen] at hk
      exact hE k hk
   ·have hi':=E4 hd
    have hr:=hm.rng i (by omega)
    have hat:=A3c (offs:=offs) hm (show i<mine.length by omega)
    have hx:=ho i hi'
    have hnet1:(gU us (gI mine i).toNat).net≤10000000000000:=hu.le (B3 hr.2)
    have hfm:f (0+(gI mine i).toNat)=W8 (gU (D5 us mine offs i) (gI mine i).toNat):=by rw [Nat.zero_add];exact hf _ hr.2
    conv=>whnf
    refine ⟨[20],[],List.range 21,by kernel_rfl,?_⟩;conv=>whnf
    refine E1 ?_
    refine E1 ?_
    refine ⟨rfl,⟨by show 0≤gI mine i;omega,by show gI mine i<(us.length:Int);omega⟩,?_⟩;conv=>whnf
    refine ldV (A0 ..) rfl (by show 0+(gI mine i).toNat<_;omega) hfm ?_;conv=>whnf
    refine E1 ?_
    refine ⟨rfl,⟨by show 0≤gI mine i;omega,by show gI mine i<(us.length:Int);omega⟩,?_⟩;conv=>whnf
    refine stV (A0 ..) rfl (by show 0+(gI mine i).toNat<_;omega) hfm (by rfl) ?_
    rw [B7];conv=>whnf
    refine G7 ?_
    have w:IntKind.i64.wrap ((gU (D5 us mine offs i) (gI mine i).toNat).net - gI offs i)=(gU (D5 us mine offs i) (gI mine i).toNat).net - gI offs i:=by
     rw [hat];exact A9 (by omega) (by omega)
    refine nx hi' ⟨by rw [B8 (by omega)],_,rfl,fun j hj=>?_⟩
    show _=W8 (gU (less1 (D5 us mine offs i) (gI mine i).toNat (gI offs i)) j)
    unfold less1
    rw [A4Z (by rw [P0];exact hr.2)]
    by_cases hj2:j=(gI mine i).toNat
    ·rw [if_pos hj2,hj2,←w]
     show C9 f (0+(gI mine i).toNat) _ _=_
     rw [Nat.zero_add,A5];rfl
    ·rw [if_neg hj2]
     show C9 f (0+(gI mine i).toNat) _ _=_
     rw [Nat.zero_add,H3 hj2];exact hf j hj
def L0 (p:B4) (x:Int):A0q:=(N7 p.tiers x).getD default
def U5 (p:B4) (nets:List Int):List Int :=
 if p.kind=1 then nets.map fun x=>J2 x p.rate else if p.kind=2 then nets.map fun x=>P4 x 0 p.amount
 else if p.kind=6 then nets.map fun x=>P4 x (L0 p nets.length).rate (L0 p nets.length).amount
 else D7 (P4 (A7 nets) (L0 p (A7 nets)).rate (L0 p (A7 nets)).amount) nets
theorem A8j {x:Int} (h0:0≤x) (h1:x≤100000000000000):J2 x 0=0:=by
 unfold J2
 rw [if_pos ⟨by omega,by omega⟩]
 unfold V8
 rw [if_neg (by rw [(A0I x).2 ⟨h0,h1⟩];decide),Int.mul_zero]
 rfl
theorem B0g {x rate amount:Int}:(if J2 x rate+amount<x then J2 x rate+amount else x)=P4 x rate amount:=by
 unfold P4;split<;>split<;>omega
theorem C4o (p:B4) (nets:List Int) (hp:A4K p) (hl:nets.length≤100000) (h0:∀ x∈nets,0≤x) (hs:A7 nets≤10000000000000) (st:St) :
  S P 251 [C0 p,A8 nets] st fun v st'=>v=A8 (U5 p nets)∧st'=st:=by
 refine S.post (post:=fun v st'=>(∃ st1,D8 st st1∧F3 2 1 eI (U5 p nets) st1 v st')∨(v=A8 (U5 p nets)∧D8 st st')) ?_
  (fun v st' h=>⟨_,st,⟨rfl,rfl⟩,by
   rcases h with ⟨st1,h1,h2⟩ | ⟨rfl,h1⟩
   ·exact h2.shift.trans (h1.shift _)
   ·exact h1.shift _⟩)
 have hx1:∀ x∈nets,x≤10000000000000:=fun x hx=>Int.le_trans (I9 h0 hx) hs
 have hsn:=C4 h0
 refine G0 [2] Tryz.func251 ?_
 rcases hp.kind with hk | hk | hk | hk
 ·have hL:U5 p nets=nets.map fun x=>J2 x p.rate:=by unfold U5;rw [if_pos hk]
  rw [show (p.kind==1)=true from by rw [hk];rfl,hL];conv=>whnf
  refine lp nets.length [1,2,5,6] (fun i vs s=>∃ sv,vs=[A8 nets,.fptr (C0 p) 0,sv,eI i]∧F3 2 1 eI ((nets.take i).map fun x=>J2 x p.rate) st sv s) ?_ ?_
  ·conv=>whnf
   exact ⟨.emp,rfl,F3.start _ _ _ _⟩
  ·rintro i vs s hi ⟨sv,rfl,hc⟩
   conv=>whnf
   cases hd:decide ((i:Int)<(nets.length:Int))
   ·obtain rfl:=C6 hd hi
    rw [List.take_length] at hc;conv=>whnf
    exact .inl ⟨st,D8.refl _,hc⟩
   ·have hi':=E4 hd
    conv=>whnf
    refine ⟨[8,9],[],List.range 11,by kernel_rfl,?_⟩;conv=>whnf
    refine E1 ?_
    refine X9 (A7G (nets.getD (i:Int).toNat default) p.rate _) ?_
    refine F3.app (q:=r2) (y:=J2 (nets.getD (i:Int).toNat default) p.rate) rfl rfl rfl rfl rfl rfl (by show (_+1) * 8≤140737488355328;rw [List.length_map,List.length_take];omega) hc (fun sv' s' hc'=>?_);conv=>whnf
    refine G7 ?_
    exact nx hi' ⟨sv',by rw [B8 (by omega)],by rw [A2K hi'];exact hc'⟩
 ·have hL:U5 p nets=nets.map fun x=>P4 x 0 p.amount:=by unfold U5;rw [if_neg (by omega),if_pos hk]
  have ha:=hp.amount hk
  rw [show (p.kind==1)=false from by rw [hk];rfl,hL];conv=>whnf
  rw [show (p.kind==2)=true from by rw [hk];rfl];conv=>whnf
  refine lp nets.length [1,2,5,7] (fun i vs s=>∃ sv,vs=[A8 nets,.fptr (C0 p) 0,sv,eI i]∧F3 2 1 eI ((nets.take i).map fun x=>P4 x 0 p.amount) st sv s) ?_ ?_
  ·conv=>whnf
   exact ⟨.emp,rfl,F3.start _ _ _ _⟩
  ·rintro i vs s hi ⟨sv,rfl,hc⟩
   conv=>whnf
   cases hd:decide ((i:Int)<(nets.length:Int))
   ·obtain rfl:=C6 hd hi
    rw [List.take_length] at hc;conv=>whnf
    exact .inl ⟨st,D8.refl _,hc⟩
   ·have hi':=E4 hd
    have hz:J2 (nets.getD (i:Int).toNat default) 0=0:=A8j (h0 _ (B3 hi')) (Int.le_trans (hx1 _ (B3 hi')) (by decide))
    have hm:=B0g (x:=nets.getD (i:Int).toNat default) (rate:=0) (amount:=p.amount)
    rw [hz,Int.zero_add] at hm;conv=>whnf
    refine ⟨[8,9],[],List.range 11,by kernel_rfl,?_⟩;conv=>whnf
    refine E1 ?_
    refine F3.app (q:=r2) (y:=P4 (nets.getD (i:Int).toNat default) 0 p.amount) rfl rfl rfl rfl rfl (by rw [←hm];rfl) (by show (_+1) * 8≤140737488355328;rw [List.length_map,List.length_take];omega) hc (fun sv' s' hc'=>?_);conv=>whnf
    refine G7 ?_
    exact nx hi' ⟨sv',by rw [B8 (by omega)],by rw [A2K hi'];exact hc'⟩
 ·have hL:U5 p nets=D7 (P4 (A7 nets) (L0 p (A7 nets)).rate (L0 p (A7 nets)).amount) nets:=by unfold U5;rw [if_neg (by omega),if_neg (by omega),if_neg (by omega)]
  have ht:=hp.tiers (.inl hk)
  have hok:0≤(L0 p (A7 nets)).amount∧(L0 p (A7 nets)).amount≤10000000000000:=Y9 ht (A7 nets)
  have hob:0≤P4 (A7 nets) (L0 p (A7 nets)).rate (L0 p (A7 nets)).amount∧P4 (A7 nets) (L0 p (A7 nets)).rate (L0 p (A7 nets)).amount≤A7 nets:=Y7 hsn hok.1
  have hW:Q0 (P4 (A7 nets) (L0 p (A7 nets)).rate (L0 p (A7 nets)).amount) nets:=⟨hob.1,by omega,hl,h0,by omega,fun e=>by omega⟩
  have hb:=S4 (A7 nets) (L0 p (A7 nets)).rate
  have w:IntKind.i64.wrap (J2 (A7 nets) (L0 p (A7 nets)).rate+(L0 p (A7 nets)).amount)=J2 (A7 nets) (L0 p (A7 nets)).rate+(L0 p (A7 nets)).amount:=A9 (by omega) (by omega)
  rw [show (p.kind==1)=false from by rw [hk];rfl,hL];conv=>whnf
  rw [show (p.kind==2)=false from by rw [hk];rfl];conv=>whnf
  rw [show (p.kind==6)=false from by rw [hk];rfl];conv=>whnf
  rw [show (p.kind==5)=true from by rw [hk];rfl];conv=>whnf
  refine I2 (A8A nets (by omega) h0 (by omega) _) ?_
  refine I2 (B0E p.tiers (A7 nets) (by have:=ht.1;omega) _) ?_
  intro b hbn;conv=>whnf
  refine N1 (A0 ..) rfl ?_
  refine ⟨[],[],List.range 15,by kernel_rfl,?_⟩;conv=>whnf
  refine ldV (A0 ..) rfl (by omega) (v:=Q5 (L0 p (A7 nets))) (by rw [A5];rfl) ?_;conv=>whnf
  refine X9 (A7G (A7 nets) (L0 p (A7 nets)).rate _) ?_
  refine ldV (A0 ..) rfl (by omega) (v:=Q5 (L0 p (A7 nets))) (by rw [A5];rfl) ?_;conv=>whnf
  rw [w,B0g]
  refine X9 (A6K _ nets hW _) ?_
  exact .inr ⟨rfl,((D8.refl st).upd hbn).over hbn⟩
 ·have hL:U5 p nets=nets.map fun x=>P4 x (L0 p nets.length).rate (L0 p nets.length).amount:=by unfold U5;rw [if_neg (by omega),if_neg (by omega),if_pos hk]
  have ht:=hp.tiers (.inr hk)
  have hok:0≤(L0 p nets.length).amount∧(L0 p nets.length).amount≤10000000000000:=Y9 ht nets.length
  rw [show (p.kind==1)=false from by rw [hk];rfl,hL];conv=>whnf
  rw [show (p.kind==2)=false from by rw [hk];rfl];conv=>whnf
  rw [show (p.kind==6)=true from by rw [hk];rfl];conv=>whnf
  refine I2 (B0E p.tiers nets.length (by have:=ht.1;omega) _) ?_
  intro b hbn;conv=>whnf
  refine stU (A0 ..) rfl ?_
  rw [B7];conv=>whnf
  generalize hst1:upd st b _=st1
  obtain ⟨f1,hs1,hf1⟩:∃ f,st1 b=some ⟨250,3,1,f⟩∧f 0=Q5 (L0 p nets.length):=⟨_,by rw [←hst1];exact A0 ..,by rw [A5];rfl⟩
  have hsup:D8 st st1:=by rw [←hst1];exact (D8.refl st).upd hbn
  clear hst1
  refine lp nets.length [1,5,8,10] (fun i vs s=>∃ sv,vs=[A8 nets,sv,.optr 3 b 0 0,eI i]∧F3 2 1 eI ((nets.take i).map fun x=>P4 x (L0 p nets.length).rate (L0 p nets.length).amount) st1 sv s) ?_ ?_
  ·conv=>whnf
   exact ⟨.emp,rfl,F3.start _ _ _ _⟩
  ·rintro i vs s hi ⟨sv,rfl,hc⟩
   have hb2:=hc.sup b _ hs1
   conv=>whnf
   cases hd:decide ((i:Int)<(nets.length:Int))
   ·obtain rfl:=C6 hd hi
    rw [List.take_length] at hc;conv=>whnf
    exact .inl ⟨st1,hsup,hc⟩
   ·have hi':=E4 hd
    have hb:=S4 (nets.getD (i:Int).toNat default) (L0 p nets.length).rate
    have w:IntKind.i64.wrap (J2 (nets.getD (i:Int).toNat default) (L0 p nets.length).rate+(L0 p nets.length).amount)=J2 (nets.getD (i:Int).toNat default) (L0 p nets.length).rate+(L0 p nets.length).amount:=A9 (by omega) (by omega)
    have hm:=B0g (x:=nets.getD (i:Int).toNat default) (rate:=(L0 p nets.length).rate) (amount:=(L0 p nets.length).amount)
    rw [←w] at hm;conv=>whnf
    refine ⟨[16,17],[],List.range 19,by kernel_rfl,?_⟩;conv=>whnf
    refine E1 ?_
    refine E1 ?_
    refine F2 hb2 hf1 ?_
    refine X9 (A7G (nets.getD (i:Int).toNat default) (L0 p nets.length).rate _) ?_
    refine F2 hb2 hf1 ?_
    refine F3.app (q:=r2) (y:=P4 (nets.getD (i:Int).toNat default) (L0 p nets.length).rate (L0 p nets.length).amount) rfl rfl rfl rfl rfl (by rw [←hm];rfl) (by show (_+1) * 8≤140737488355328;rw [List.length_map,List.length_take];omega) hc (fun sv' s' hc'=>?_);conv=>whnf
    refine G7 ?_
    exact nx hi' ⟨sv',by rw [B8 (by omega)],by rw [A2K hi'];exact hc'⟩
theorem C2B {α : Type} (l:List α):A7 (l.map fun _=>(0:Int))=0:=by
 induction l with
 | nil=>rfl
 | cons x l ih=>rw [List.map_cons,show (0:Int)::l.map (fun _=>(0:Int))=[0]++l.map (fun _=>(0:Int)) from rfl,G6,ih];rfl
theorem C1y {p:B4} (hp:A4K p) {nets:List Int} (h0:∀ x∈nets,0≤x) (hs:A7 nets≤10000000000000) (hl:nets.length≤100000) :
  U5 p nets=O0 p nets∨(O0 p nets=[]∧A7 (U5 p nets)=0∧(U5 p nets).length=nets.length∧∀ k,k<(U5 p nets).length→gI (U5 p nets) k=0):=by
 have hx1:∀ x∈nets,x≤10000000000000:=fun x hx=>Int.le_trans (I9 h0 hx) hs
 have ok:=A2X hp.right
 rcases hp.kind with hk | hk | hk | hk
 ·refine .inl ?_
  unfold U5 O0 B4z
  rw [if_pos hk,if_pos hk]
  refine List.map_congr_left fun x hx=>?_
  have hr:1≤p.rate∧p.rate≤10000:=by
   have:=hp.right
   unfold H7 A6p A7x at this
   rw [if_pos hk] at this
   simp only [Bool.and_eq_true,J5] at this
   exact this.2
  have:=A4q (h0 x hx) (show 0≤p.rate by omega) hr.2
  unfold P4
  rw [Int.add_zero];split<;>omega
 ·refine .inl ?_
  unfold U5 O0 B4y
  rw [if_neg (by omega),if_pos hk,if_neg (by omega),if_pos hk]
 ·unfold U5 O0 A4A
  rw [if_neg (by omega),if_neg (by omega),if_neg (by omega),if_neg (by omega),if_neg (by omega),if_pos hk]
  cases hr:N7 p.tiers (A7 nets) with
  | some t=>refine .inl ?_;unfold L0;rw [hr];rfl
  | none =>
   have hsn:=C4 h0
   have e:P4 (A7 nets) (L0 p (A7 nets)).rate (L0 p (A7 nets)).amount=0:=by
    unfold L0;rw [hr]
    show P4 (A7 nets) 0 0=0
    unfold P4
    rw [A8j hsn (by omega),Int.add_zero];split<;>omega
   rw [e]
   have hW:Q0 0 nets:=⟨by omega,by omega,hl,h0,by omega,fun _=>rfl⟩
   obtain ⟨a,b,c⟩:=R6 hW
   exact .inr ⟨rfl,a,b,A3d c a⟩
 ·unfold U5 O0 A4z
  rw [if_neg (by omega),if_neg (by omega),if_pos hk,if_neg (by omega),if_neg (by omega),if_neg (by omega)]
  cases hr:N7 p.tiers nets.length with
  | some t=>refine .inl ?_;unfold L0;rw [hr];rfl
  | none =>
   have e:(nets.map fun x=>P4 x (L0 p nets.length).rate (L0 p nets.length).amount)=nets.map fun _=>(0:Int):=by
    refine List.map_congr_left fun x hx=>?_
    unfold L0;rw [hr]
    show P4 x 0 0=0
    unfold P4
    rw [A8j (h0 x hx) (Int.le_trans (hx1 x hx) (by decide)),Int.add_zero]
    have:=h0 x hx
    split<;>omega
   rw [e]
   exact .inr ⟨rfl,C2B nets,by simp,fun k hk=>by rw [List.length_map] at hk;exact E6 (fun _:Int=>(0:Int)) nets hk⟩
theorem A4l (us:List B5) (mine:List Int):(F0 us mine).length=mine.length:=List.length_map ..
theorem B0n {us:List B5} (hu:E8 us) {mine:List Int} (hm:N0 us mine):(∀ x∈F0 us mine,0≤x)∧A7 (F0 us mine)≤10000000000000:=by
 have hwl:=B1e hu hm.places
 have hus:=hu.sum
 exact ⟨fun x hx=>by obtain ⟨i,hi,rfl⟩:=List.mem_map.1 hx;exact hu.at0 _,by rw [A7u];omega⟩
theorem B4s {p:B4} {us:List B5} {mine:List Int} (h0:∀ x∈O0 p (F0 us mine),0≤x):A2b us mine (O0 p (F0 us mine)) p.closes=X4 p us mine:=by
 have hn:=C4 h0
 unfold A2b X4
 by_cases hz:A7 (O0 p (F0 us mine))=0
 ·rw [if_pos hz]
  simp only
  rw [hz,A2n (A3d h0 hz) _ (Nat.le_refl _)];rfl
 ·rw [if_neg hz]
  simp only
  rw [decide_eq_true (show A7 (O0 p (F0 us mine))>0 by omega),Bool.true_and]
theorem C1O (p:B4) (us:List B5) (mine:List Int) (hp:A4K p) (hps:A0V p) (hu:E8 us) (hm:N0 us mine) (st:St) :
  S P 167 [C0 p,D1 us,A8 mine] st fun v st'=>v=.tuple [D1 (X4 p us mine).1,eI (X4 p us mine).2]∧st'=st:=by
 have hml:=hm.len
 have hul:=hu.len
 obtain ⟨hn0,hns⟩:=B0n hu hm
 have hnl:=A4l us mine
 have hob:=A4m hp hn0 hns (by omega)
 obtain ⟨ob1,ob2,ob3⟩:=hob
 have hle:=B7K hp hn0 hns (by omega)
 have hcz:=C1y hp hn0 hns (by omega)
 have hlen:(U5 p (F0 us mine)).length≤mine.length:=by
  rcases hcz with e | ⟨_,_,e,_⟩
  ·rw [e];omega
  ·omega
 have hc:∀ k,k<(U5 p (F0 us mine)).length→0≤gI (U5 p (F0 us mine)) k∧gI (U5 p (F0 us mine)) k≤(gU us (gI mine k).toNat).net:=fun k hk=>by
  rcases hcz with e | ⟨_,_,_,e⟩
  ·rw [e] at hk ⊢
   have h1:=hle k hk
   rw [show gI (F0 us mine) k=(gU us (gI mine k).toNat).net from E6 (fun i:Int=>(gU us i.toNat).net) mine (by omega)] at h1
   exact ⟨ob3 _ (B3 hk),h1⟩
  ·rw [e k hk];exact ⟨Int.le_refl _,hu.at0 _⟩
 have hsum:A7 (U5 p (F0 us mine))≤1000000000000000:=by
  rcases hcz with e | ⟨_,e,_⟩<;>rw [e]<;>omega
 have hE:A2b us mine (U5 p (F0 us mine)) p.closes=X4 p us mine:=by
  rcases hcz with e | ⟨e1,e2,_⟩
  ·rw [e];exact B4s ob3
  ·unfold A2b X4
   rw [if_pos e2,e1];rfl
 rw [←hE]
 refine G0 [3] Tryz.func167 ?_
 refine I2 (A6I p hps hp.right st) ?_
 refine I2 (B6z us mine hu hm st) ?_
 refine ⟨[],[],List.range 14,by kernel_rfl,?_⟩;conv=>whnf
 refine X9 (A5Z us mine (by omega) hm.rng st) ?_
 refine X9 (C4o p (F0 us mine) hp (by omega) hn0 hns st) ?_
 refine X9 (B3r us mine (U5 p (F0 us mine)) p.closes hu hm.places (by omega) hlen hc hsum st) ?_
 exact ⟨rfl,rfl⟩
def B1L (p:B4) (us:List B5) (D:List Int) (m i:Nat):Int:=if ((i % m:Nat):Int)≥p.buy then J2 (gU us (gI D i).toNat).net p.rate else 0
def I4 (p:B4) (us:List B5) (D:List Int) (m n:Nat):List Int:=(List.range n).map (B1L p us D m)
theorem B6i {us:List B5} {i:Nat} (h:i<us.length):less1 us i 0=us:=by
 unfold less1
 refine List.ext_getElem (by simp) fun j h1 h2=>?_
 rw [List.getElem_set]
 split
 ·rename_i e;subst e
  have e:gU us i=us[i]:=by unfold gU;rw [List.getD_eq_getElem?_getD,List.getElem?_eq_getElem h];rfl
  rw [e,Int.sub_zero]
 ·rfl
theorem C3H (d:List QE) {k:Nat} (h:k<d.length):gI (d.map (·.2)) k=(at_ d k).2:=E6 (fun e:QE=>e.2) d h
theorem B5f {p:B4} {us:List B5} {d:List QE} {m:Nat} (hP:X3 us (d.map (·.2))) {n:Nat} (hn:n≤d.length) {s:Nat} (hs:s % m=0) (hsm:s+m≤n):∀ k,k≤m →
  A0u p (D5 us (d.map (·.2)) (I4 p us (d.map (·.2)) m n) s) (d.drop s) k=(D5 us (d.map (·.2)) (I4 p us (d.map (·.2)) m n) (s+k),A7 ((I4 p us (d.map (·.2)) m n).take (s+k)) - A7 ((I4 p us (d.map (·.2)) m n).take s))
 | 0,_=>by unfold A0u;rw [Nat.add_zero,Int.sub_self]
 | k+1,hk=>by
  have ih:=B5f (p:=p) hP hn hs hsm k (by omega)
  have hln:(I4 p us (d.map (·.2)) m n).length=n:=by unfold I4;simp
  have hml:(d.map (·.2)).length=d.length:=List.length_map ..
  have hrg:=hP.rng (s+k) (by omega)
  have hat:=A3c (offs:=I4 p us (d.map (·.2)) m n) hP (show s+k<(d.map (·.2)).length by omega)
  have he:gI (I4 p us (d.map (·.2)) m n) (s+k)=if (k:Int)<p.buy then 0 else J2 (gU us (gI (d.map (·.2)) (s+k)).toNat).net p.rate:=by
   unfold I4
   rw [L5 _ (by omega)]
   unfold B1L
   rw [show (s+k) % m=k by rw [Nat.add_mod,hs,Nat.zero_add,Nat.mod_mod,Nat.mod_eq_of_lt (by omega)]]
   split<;>split<;>first | rfl | omega
  have hdr:at_ (d.drop s) k=at_ d (s+k):=by unfold at_;rw [List.getD_eq_getElem?_getD,List.getD_eq_getElem?_getD,List.getElem?_drop]
  have hts:=L6 (l:=I4 p us (d.map (·.2)) m n) (i:=s+k) (by omega)
  rw [←Nat.add_assoc]
  unfold A0u
  rw [ih,hts,he,hdr,←C3H d (by omega)]
  split
  ·rw [Int.add_zero]
   show _=(less1 _ _ _,_)
   rw [he,if_pos (by assumption),B6i (by rw [P0];exact hrg.2)]
  ·show _=(less1 _ _ _,_)
   rw [he,if_neg (by assumption),hat]
   congr 1
   show _ - _+_=_
   omega
theorem B7m {p:B4} {us:List B5} {d:List QE} {m:Nat} (hP:X3 us (d.map (·.2))) {q:Nat} (hn:q * m≤d.length):∀ r,r≤q →
  bgF p us d m r=(D5 us (d.map (·.2)) (I4 p us (d.map (·.2)) m (q * m)) (r * m),A7 ((I4 p us (d.map (·.2)) m (q * m)).take (r * m)))
 | 0,_=>by rw [Nat.zero_mul];rfl
 | r+1,hr=>by
  have ih:=B7m (p:=p) hP hn r (by omega)
  have e:(r+1) * m=r * m+m:=Nat.succ_mul r m
  have h1:r * m+m≤q * m:=by rw [←e];exact Nat.mul_le_mul_right m hr
  have h2:=B5f (p:=p) hP hn (s:=r * m) (Nat.mul_mod_left ..) h1 m (Nat.le_refl _)
  unfold bgF
  rw [ih]
  simp only
  rw [h2,e]
  congr 1
  show _+(_ - _)=_
  omega
theorem B4f {us:List B5} {mine:List Int} (hm:N0 us mine):X3 us ((E5 us mine).map (·.2)):=by
 have hp:((E5 us mine).map (·.2)).Perm mine:=by
  refine ((A2y us mine).map _).trans (List.Perm.of_eq ?_)
  rw [List.map_map]
  exact (List.map_congr_left fun x _=>rfl).trans (List.map_id mine)
 have hnd:mine.Pairwise (·≠·):=by
  rw [List.pairwise_iff_getElem]
  intro i j hi hj hij
  have:=hm.lt i j hij hj
  simp only [gI,List.getD_eq_getElem?_getD,List.getElem?_eq_getElem hi,List.getElem?_eq_getElem hj,Option.getD_some] at this
  omega
 have hr:∀ k,k<((E5 us mine).map (·.2)).length→0≤gI ((E5 us mine).map (·.2)) k∧(gI ((E5 us mine).map (·.2)) k).toNat<us.length:=fun k hk=>A7y (P:=fun x=>0≤x∧x.toNat<us.length) hp (fun x hx=>by obtain ⟨j,hj,rfl⟩:=E3 hx;exact hm.rng j hj) hk
 refine ⟨hr,fun i k hik hk=>?_⟩
 have h1:=(hp.symm.pairwise hnd (fun h=>h.symm))
 have:=B2f h1 hik hk
 have:=hr i (by omega)
 have:=hr k hk
 omega
theorem X3.take {us:List B5} {l:List Int} (h:X3 us l) (n:Nat):X3 us (l.take n):=by
 have e:∀ k,k<(l.take n).length→gI (l.take n) k=gI l k∧k<l.length:=fun k hk=>by
  rw [List.length_take] at hk
  unfold gI
  rw [List.getD_eq_getElem?_getD,List.getD_eq_getElem?_getD,List.getElem?_take_of_lt (by omega)]
  exact ⟨rfl,by omega⟩
 exact ⟨fun k hk=>by rw [(e k hk).1];exact h.rng k (e k hk).2,fun i k hik hk=>by rw [(e k hk).1,(e i (by omega)).1];exact h.ne i k hik (e k hk).2⟩
theorem A7P {us:List B5} {l offs:List Int} {n:Nat}:∀ k,k≤n→D5 us (l.take n) offs k=D5 us l offs k
 | 0,_=>rfl
 | k+1,hk=>by
  unfold D5
  rw [A7P k (by omega)]
  congr 1
  unfold gI;rw [List.getD_eq_getElem?_getD,List.getD_eq_getElem?_getD,List.getElem?_take_of_lt (by omega)]
set_option maxHeartbeats 400000 in
theorem B9h (p:B4) (us:List B5) (mine:List Int) (hps:A0V p) (hright:H7 p=true) (hk:p.kind=3) (hp:A9x p) (hu:E8 us) (hm:N0 us mine) (st:St) :
  S P 166 [C0 p,D1 us,A8 mine] st fun v st'=>v=.tuple [D1 (U1 p us mine).1,eI (U1 p us mine).2]∧st'=st:=by
 have hB:=hp.buy
 have hG:=hp.get
 have hml:=hm.len
 have hul:=hu.len
 have hdl:((E5 us mine).map (·.2)).length=mine.length:=by rw [List.length_map,A1x]
 have hP:=B4f hm
 obtain ⟨m,hm1⟩:∃ m:Nat,(m:Int)=p.buy+p.get:=⟨(p.buy+p.get).toNat,by omega⟩
 have w1:IntKind.i64.wrap (p.buy+p.get)=(m:Int):=by rw [A9 (by omega) (by omega)];omega
 have hq0:mine.length / m * m≤mine.length:=Nat.div_mul_le_self ..
 have hbg:=B7m (p:=p) (m:=m) hP (q:=mine.length / m) (by rw [A1x];exact hq0) _ (Nat.le_refl _)
 have hout:U1 p us mine=(if (decide (A7 (I4 p us ((E5 us mine).map (·.2)) m (mine.length / m * m))>0)&&p.closes)=true then closeB (D5 us ((E5 us mine).map (·.2)) (I4 p us ((E5 us mine).map (·.2)) m (mine.length / m * m)) (mine.length / m * m)) (((E5 us mine).map (·.2)).take (mine.length / m * m)) else D5 us ((E5 us mine).map (·.2)) (I4 p us ((E5 us mine).map (·.2)) m (mine.length / m * m)) (mine.length / m * m),A7 (I4 p us ((E5 us mine).map (·.2)) m (mine.length / m * m))):=by
  have hl:(I4 p us ((E5 us mine).map (·.2)) m (mine.length / m * m)).length=mine.length / m * m:=by unfold I4;simp
  unfold U1
  simp only
  rw [show (p.buy+p.get).toNat=m by omega,A1x,hbg]
  simp only
  rw [show (I4 p us ((E5 us mine).map (·.2)) m (mine.length / m * m)).take (mine.length / m * m)=I4 p us ((E5 us mine).map (·.2)) m (mine.length / m * m) from List.take_of_length_le (by omega),List.map_take]
 refine G0 [3] Tryz.func166 ?_
 refine I2 (A6I p hps hright st) ?_
 rw [show (p.kind != 3)=false from by rw [hk];rfl];conv=>whnf
 refine I2 (B6z us mine hu hm st) ?_
 refine C5 (B7P us mine hu hm st) ?_
 clear hbg
 generalize (E5 us mine).map (·.2)=D at *
 conv=>whnf
 rw [w1,decide_eq_false (show ¬(m:Int)=0 by omega)];conv=>whnf
 have hN:IntKind.i64.wrap ((D.length:Int) - (D.length:Int).tmod (m:Int))=((mine.length / m * m:Nat):Int):=by
  rw [hdl,Int.tmod_eq_emod_of_nonneg (by omega),←Int.natCast_emod]
  have:=Nat.div_add_mod mine.length m
  rw [Nat.mul_comm] at this
  rw [A9 (by omega) (by omega)];omega
 rw [hN]
 generalize hNe:mine.length / m * m=N at *
 refine ⟨rfl,⟨by omega,by omega,by omega⟩,?_⟩;conv=>whnf
 refine lp N [1,3,8,9,10,11] (fun i vs s=>∃ sv,vs=[D1 us,.fptr (C0 p) 0,.arr 1 N (fun i=>eI (D.getD ((0:Int).toNat+i) default)),eI m,sv,eI i]∧F3 2 1 eI (I4 p us D m i) st sv s) ?_ ?_
 ·conv=>whnf
  exact ⟨.emp,rfl,F3.start _ _ _ _⟩
 ·rintro i vs s hi ⟨sv,rfl,hc⟩
  conv=>whnf
  cases hd:decide ((i:Int)<(N:Int))
  ·obtain rfl:=C6 hd hi
   have hln:(I4 p us D m i).length=i:=by unfold I4;simp
   have hb0:∀ k,k<(I4 p us D m i).length→0≤gI (I4 p us D m i) k∧gI (I4 p us D m i) k≤(gU us (gI (D.take i) k).toNat).net:=fun k hk=>by
    have e:gI (D.take i) k=gI D k:=by unfold gI;rw [List.getD_eq_getElem?_getD,List.getD_eq_getElem?_getD,List.getElem?_take_of_lt (by omega)]
    rw [e]
    unfold I4
    rw [L5 _ (by omega)]
    unfold B1L
    have h9:=hu.at0 (gI D k).toNat
    split
    ·exact ⟨(S4 _ _).1,A4q h9 hp.rate.1 hp.rate.2⟩
    ·exact ⟨Int.le_refl _,h9⟩
   have h0s:∀ x∈I4 p us D m i,0≤x:=fun x hx=>by obtain ⟨k,hk,rfl⟩:=E3 hx;exact (hb0 k hk).1
   have hsum:A7 (I4 p us D m i)≤1000000000000000:=by
    have h5:=A1P hu (hP.take i) (offs:=I4 p us D m i) (by rw [hln,List.length_take];omega) hb0 (I4 p us D m i).length (Nat.le_refl _)
    rw [List.take_length] at h5
    have:=h5.sum
    have:=hu.sum
    have:=C4 (h5.ok hu).nets0
    omega
   have hE:A2b us (D.take i) (I4 p us D m i) p.closes=U1 p us mine:=by
    rw [hout]
    unfold A2b
    rw [hln,A7P i (Nat.le_refl _)]
    have hn:=C4 h0s
    by_cases hz:A7 (I4 p us D m i)=0
    ·rw [if_pos hz,hz,A2n (A3d h0s hz) i (by omega)];rfl
    ·rw [if_neg hz,decide_eq_true (show A7 (I4 p us D m i)>0 by omega),Bool.true_and]
   rw [←hE];conv=>whnf
   have hsh:B0 [D1 us,.arr 1 i (fun i=>eI (D.getD ((0:Int).toNat+i) default)),sv,eB p.closes] s [D1 us,A8 (D.take i),A8 (I4 p us D m i),eB p.closes] st:=by
    refine B0.cons (t:=s) (B0.keep _ _) (B0.cons (t:=s) ?_ (B0.cons hc.shift (B0.keep _ _)))
    have e:A8 (D.take i)=.arr 1 i (fun k=>eI (gI (D.take i) k)):=by unfold A8 B1;rw [List.length_take,Nat.min_eq_left (by omega)]
    rw [e]
    refine B0.arr fun k hk=>?_
    show eI (D.getD ((0:Int).toNat+k) default)=eI ((D.take i).getD k default)
    rw [show (0:Int).toNat+k=k by simp,List.getD_eq_getElem?_getD,List.getD_eq_getElem?_getD,List.getElem?_take_of_lt hk]
   refine F4 hsh (C5 (B3r us (D.take i) (I4 p us D m i) p.closes hu (hP.take i) (by rw [List.length_take];omega) (by rw [hln,List.length_take];omega) hb0 hsum st) ?_);conv=>whnf
   exact ⟨rfl,rfl⟩
  ·have hi':=E4 hd
   have hr:=hP.rng i (by omega)
   have hrem:(i:Int).tmod (m:Int)=((i % m:Nat):Int):=by rw [Int.tmod_eq_emod_of_nonneg (by omega),Int.natCast_emod]
   have hln:(I4 p us D m i).length=i:=by unfold I4;simp
   have hsn:I4 p us D m (i+1)=I4 p us D m i++[B1L p us D m i]:=by unfold I4;rw [List.range_succ,List.map_append];rfl
   have hbo:B1L p us D m i=if ((i % m:Nat):Int)≥p.buy then J2 (gU us (gI D i).toNat).net p.rate else 0:=rfl
   conv=>whnf
   refine ⟨[],[],List.range 6,by kernel_rfl,?_⟩;conv=>whnf
   rw [decide_eq_false (show ¬(m:Int)=0 by omega)];conv=>whnf
   rw [hrem]
   refine B9 (fun h1=>?_) (fun h1=>?_)<;>rw [h1]
   case' refine_1 =>
    rw [if_pos (of_decide_eq_true h1)] at hbo;conv=>whnf
    refine ⟨[],[],List.range 12,by kernel_rfl,?_⟩;conv=>whnf
    refine E1 ?_
    rw [show (0:Int).toNat+(i:Int).toNat=i by simp]
    refine ⟨rfl,⟨by show 0≤gI D i;omega,by show gI D i<(us.length:Int);omega⟩,?_⟩;conv=>whnf
    refine ⟨_,N4 (A7G (gU us (gI D i).toNat).net p.rate _),?_⟩
    rw [←hbo]
   case' refine_2 =>
    rw [if_neg (of_decide_eq_false h1)] at hbo
   all_goals (conv=>whnf)
   all_goals refine F3.app (q:=r2) (y:=B1L p us D m i) rfl rfl rfl rfl rfl (by first | rfl | (rw [hbo];rfl)) (by show (_+1) * 8≤140737488355328;omega) hc (fun sv' s' hc'=>?_)
   all_goals (conv=>whnf)
   all_goals refine ⟨rfl,?_⟩
   all_goals (conv=>whnf)
   all_goals exact nx hi' ⟨sv',by rw [B8 (by omega)],by rw [hsn];exact hc'⟩
end Go.Proofs.YtbajhapmlfbelaaGreat
