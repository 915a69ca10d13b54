/- Part 26 of the proof: contracts of the functions that the law reaches -/
import Derived.Test.YtbajhapmlfbelaaGreatDe25
set_option maxRecDepth 100000
set_option linter.unusedVariables false
set_option linter.unusedSimpArgs false
namespace Go.Proofs.YtbajhapmlfbelaaGreat
open Go Go.Ab
attribute [local irreducible] upd del
structure B1O (z:U6):Prop where
 n:Sm z.rates.length
 s:Sm z.name.size
 r:∀ x∈z.rates,Sm x.cat.size
def A2W (l:List G8) (k:Nat) (x:G8):Bool:=F1 x.cat&&Q6 0 10000 x.rate&&L6 (l.map G8.cat) k
def B0z (z:U6):Bool:=J1 z.rates (A2W z.rates)&&(decide ((z.rates.length:Int)≤40)&&Q6 0 10000 z.rest&&Q6 0 10000 z.ship)
theorem C0Y (z:U6) (hz:B1O z) (st:St):S P 247 [S8 z] st fun v st'=>v=.bool (B0z z)∧st'=st:=by
 rw [show B0z z=(J1 z.rates (A2W z.rates)&&(decide ((z.rates.length:Int)≤40)&&Q6 0 10000 z.rest&&Q6 0 10000 z.ship)) from rfl]
 refine A7 [1] C0 mixed Tryz.func247 (by rfl) rfl rfl rfl ?_;conv=>whnf
 refine lp z.rates.length [1,3] (fun i vs st'=>(∀ k,k<i→A2W z.rates k (z.rates.getD k default)=true)∧vs=[.fptr (S8 z) 0,eI i]∧st'=st) ?_ ?_
 ·conv=>whnf
  exact ⟨fun k hk=>absurd hk (by omega),rfl,rfl⟩
 ·rintro i vs st' hi ⟨hok,rfl,rfl⟩
  conv=>whnf
  cases h:decide ((i:Int)<(z.rates.length:Int))
  ·obtain rfl:=D7 h hi
   rw [show J1 z.rates (A2W z.rates)=true from J2 hok,Bool.true_and];conv=>whnf
   cases hd:decide ((z.rates.length:Int)≤40)
   ·conv=>whnf
    exact ⟨rfl,rfl⟩
   ·conv=>whnf
    refine B3 (A1L z.rest 10000 _) ?_;conv=>whnf
    cases Q6 0 10000 z.rest
    ·conv=>whnf
     exact ⟨rfl,rfl⟩
    ·conv=>whnf
     refine B3 (A1L z.ship 10000 _) ?_;conv=>whnf
     exact ⟨rfl,rfl⟩
  ·have hi':=H0 h
   have yes:A2W z.rates i (z.rates.getD (i:Int).toNat default)=true→∀ k,k<i+1→A2W z.rates k (z.rates.getD k default)=true:=fun h=>L9 hok h
   have no:A2W z.rates i (z.rates.getD (i:Int).toNat default)=false→J1 z.rates (A2W z.rates)=false:=fun h=>T3 hi' h
   have hl:=hz.n
   have hm:=hz.r _ (B5 hi')
   have n1:=A2N (z.rates.getD (i:Int).toNat default).cat hm st'
   have n2:=A1L (z.rates.getD (i:Int).toNat default).rate 10000 st'
   have e:0<i→L6 (z.rates.map G8.cat) i=!(Op.bytesLess (z.rates.getD i default).cat.toList (z.rates.getD (i - 1) default).cat.toList||(z.rates.getD i default).cat.toList==(z.rates.getD (i - 1) default).cat.toList):=fun hp=>by
    rw [B2K hp]
    have e1:(z.rates.map G8.cat).getD i default=(z.rates.getD i default).cat:=E2 G8.cat z.rates hi'
    have e2:(z.rates.map G8.cat).getD (i - 1) default=(z.rates.getD (i - 1) default).cat:=E2 G8.cat z.rates (by omega)
    rw [e1,e2]
   have e0:i=0→L6 (z.rates.map G8.cat) i=true:=fun h=>by rw [h];rfl
   rw [show A2W z.rates i (z.rates.getD (i:Int).toNat default)=(F1 (z.rates.getD (i:Int).toNat default).cat&&Q6 0 10000 (z.rates.getD (i:Int).toNat default).rate&&L6 (z.rates.map G8.cat) i) from rfl] at yes no
   generalize F1 (z.rates.getD (i:Int).toNat default).cat=b1 at n1 yes no
   generalize Q6 0 10000 (z.rates.getD (i:Int).toNat default).rate=b2 at n2 yes no
   conv=>whnf
   refine ⟨[],[],List.range 38,by kernel_rfl,?_⟩
   cases h0:decide ((i:Int)>0)
   ·replace e:=e0 (by have:=of_decide_eq_false h0;omega)
    repeat' ((conv=>whnf);first | refine ⟨rfl,⟨by omega,by omega⟩,?_⟩ | refine ⟨_,D2 n1,?_⟩ | refine ⟨_,D2 n2,?_⟩ | rw [h0] | cases b1 | cases b2)
    all_goals (conv=>whnf)
    all_goals first
     | (rw [no (by rfl)];exact ⟨rfl,rfl⟩)
     | (refine ⟨rfl,?_⟩;conv=>whnf
        exact nx hi' ⟨yes (by rw [e];rfl),by rw [C2 (by omega)],rfl⟩)
   ·have h0':0<i:=by have:=of_decide_eq_true h0;omega
    replace e:=e h0'
    have hw:=A5V h0' (by omega)
    repeat' ((conv=>whnf);first | refine ⟨rfl,⟨by omega,by omega⟩,?_⟩ | refine ⟨rfl,⟨by rw [hw];omega,by rw [hw];omega⟩,?_⟩ | refine ⟨_,D2 n1,?_⟩ | refine ⟨_,D2 n2,?_⟩ | rw [h0] | cases b1 | cases b2 | refine C4 (fun h=>?_) (fun h=>?_))
    all_goals (conv=>whnf)
    all_goals first
     | (rw [no (by rfl)];exact ⟨rfl,rfl⟩)
     | (rw [hw] at h;rw [no (by rw [e];exact congrArg not h)];exact ⟨rfl,rfl⟩)
     | (rw [hw] at h;refine ⟨rfl,?_⟩;conv=>whnf
        exact nx hi' ⟨yes (by rw [e];exact congrArg not h),by rw [C2 (by omega)],rfl⟩)
def A3a (l:List U6) (k:Nat) (x:U6):Bool:=F1 x.name&&B0z x&&L6 (l.map U6.name) k
structure B6I (x:Tax):Prop where
 n:Sm x.zones.length
 z:∀ z∈x.zones,B1O z
def C3g (x:Tax):Bool:=J1 x.zones (A3a x.zones)&&(decide ((x.zones.length:Int)≤20)&&decide (x.round≥0)&&decide (x.round≤2))
theorem C2Q (x:Tax) (hx:B6I x) (st:St):S P 157 [B0I x] st fun v st'=>v=.bool (C3g x)∧st'=st:=by
 rw [show C3g x=(J1 x.zones (A3a x.zones)&&(decide ((x.zones.length:Int)≤20)&&decide (x.round≥0)&&decide (x.round≤2))) from rfl]
 refine A7 [1] C0 mixed Tryz.func157 (by rfl) rfl rfl rfl ?_;conv=>whnf
 refine lp x.zones.length [1,3] (fun i vs st'=>(∀ k,k<i→A3a x.zones k (x.zones.getD k default)=true)∧vs=[.fptr (B0I x) 0,eI i]∧st'=st) ?_ ?_
 ·conv=>whnf
  exact ⟨fun k hk=>absurd hk (by omega),rfl,rfl⟩
 ·rintro i vs st' hi ⟨hok,rfl,rfl⟩
  conv=>whnf
  cases h:decide ((i:Int)<(x.zones.length:Int))
  ·obtain rfl:=D7 h hi
   rw [show J1 x.zones (A3a x.zones)=true from J2 hok,Bool.true_and];conv=>whnf
   refine C4 (fun h=>?_) (fun h=>?_)<;>rw [h]
   ·conv=>whnf
    refine C4 (fun h=>?_) (fun h=>?_)<;>rw [h]<;>(conv=>whnf)<;>exact ⟨rfl,rfl⟩
   ·conv=>whnf
    exact ⟨rfl,rfl⟩
  ·have hi':=H0 h
   have yes:A3a x.zones i (x.zones.getD (i:Int).toNat default)=true→∀ k,k<i+1→A3a x.zones k (x.zones.getD k default)=true:=fun h=>L9 hok h
   have no:A3a x.zones i (x.zones.getD (i:Int).toNat default)=false→J1 x.zones (A3a x.zones)=false:=fun h=>T3 hi' h
   have hl:=hx.n
   have hm:=hx.z _ (B5 hi')
   have n1:=A2N (x.zones.getD (i:Int).toNat default).name hm.s st'
   have n2:=C0Y (x.zones.getD (i:Int).toNat default) hm st'
   have e:0<i→L6 (x.zones.map U6.name) i=!(Op.bytesLess (x.zones.getD i default).name.toList (x.zones.getD (i - 1) default).name.toList||(x.zones.getD i default).name.toList==(x.zones.getD (i - 1) default).name.toList):=fun hp=>by
    rw [B2K hp]
    have e1:(x.zones.map U6.name).getD i default=(x.zones.getD i default).name:=E2 U6.name x.zones hi'
    have e2:(x.zones.map U6.name).getD (i - 1) default=(x.zones.getD (i - 1) default).name:=E2 U6.name x.zones (by omega)
    rw [e1,e2]
   have e0:i=0→L6 (x.zones.map U6.name) i=true:=fun h=>by rw [h];rfl
   rw [show A3a x.zones i (x.zones.getD (i:Int).toNat default)=(F1 (x.zones.getD (i:Int).toNat default).name&&B0z (x.zones.getD (i:Int).toNat default)&&L6 (x.zones.map U6.name) i) from rfl] at yes no
   generalize F1 (x.zones.getD (i:Int).toNat default).name=b1 at n1 yes no
   generalize B0z (x.zones.getD (i:Int).toNat default)=b2 at n2 yes no
   conv=>whnf
   refine ⟨[],[],List.range 37,by kernel_rfl,?_⟩
   cases h0:decide ((i:Int)>0)
   ·replace e:=e0 (by have:=of_decide_eq_false h0;omega)
    repeat' ((conv=>whnf);first | refine ⟨rfl,⟨by omega,by omega⟩,?_⟩ | refine ⟨_,D2 n1,?_⟩ | refine ⟨_,D2 n2,?_⟩ | rw [h0] | cases b1 | cases b2)
    all_goals (conv=>whnf)
    all_goals first
     | (rw [no (by rfl)];exact ⟨rfl,rfl⟩)
     | (refine ⟨rfl,?_⟩;conv=>whnf
        exact nx hi' ⟨yes (by rw [e];rfl),by rw [C2 (by omega)],rfl⟩)
   ·have h0':0<i:=by have:=of_decide_eq_true h0;omega
    replace e:=e h0'
    have hw:=A5V h0' (by omega)
    repeat' ((conv=>whnf);first | refine ⟨rfl,⟨by omega,by omega⟩,?_⟩ | refine ⟨rfl,⟨by rw [hw];omega,by rw [hw];omega⟩,?_⟩ | refine ⟨_,D2 n1,?_⟩ | refine ⟨_,D2 n2,?_⟩ | rw [h0] | cases b1 | cases b2 | refine C4 (fun h=>?_) (fun h=>?_))
    all_goals (conv=>whnf)
    all_goals first
     | (rw [no (by rfl)];exact ⟨rfl,rfl⟩)
     | (rw [hw] at h;rw [no (by rw [e];exact congrArg not h)];exact ⟨rfl,rfl⟩)
     | (rw [hw] at h;refine ⟨rfl,?_⟩;conv=>whnf
        exact nx hi' ⟨yes (by rw [e];exact congrArg not h),by rw [C2 (by omega)],rfl⟩)
theorem C1I (z:U6):(F1 z.name&&B0z z)=Z5 z:=by
 unfold B0z Z5 J1 Y2 A2W A4g Q6
 rw [List.length_map,←Bool.coe_iff_coe]
 simp only [Bool.and_eq_true,List.all_eq_true,List.mem_range,Bool.not_eq_true',Bool.or_eq_false_iff,Bool.not_eq_false',decide_eq_true_eq,decide_eq_false_iff_not]
 constructor
 ·rintro ⟨h0,h1,⟨h2,h3⟩,h4⟩
  exact ⟨⟨⟨⟨h0,h3⟩,h4⟩,by omega⟩,fun k hk=>(h1 k hk).1,fun k hk=>(h1 k hk).2⟩
 ·rintro ⟨⟨⟨⟨h0,h3⟩,h4⟩,h2⟩,h1,h5⟩
  exact ⟨h0,fun k hk=>⟨h1 k hk,h5 k hk⟩,⟨by omega,h3⟩,h4⟩
theorem C3h (x:Tax):C3g x=A6u x:=by
 unfold C3g A6u
 rw [←Bool.coe_iff_coe]
 unfold J1 Y2 A3a
 rw [List.length_map]
 simp only [C1I,Bool.and_eq_true,List.all_eq_true,List.mem_range,Bool.not_eq_true',Bool.or_eq_false_iff,Bool.not_eq_false',decide_eq_true_eq,decide_eq_false_iff_not]
 constructor
 ·rintro ⟨h1,⟨h2,h3⟩,h4⟩
  exact ⟨⟨⟨by omega,by omega⟩,by omega⟩,fun k hk=>(h1 k hk).1,fun k hk=>(h1 k hk).2⟩
 ·rintro ⟨⟨⟨h3,h4⟩,h2⟩,h1,h5⟩
  exact ⟨fun k hk=>⟨h1 k hk,h5 k hk⟩,⟨by omega,by omega⟩,by omega⟩
theorem C4B (x:Tax) (hx:B6I x) (st:St):S P 157 [B0I x] st fun v st'=>v=.bool (A6u x)∧st'=st:=by
 rw [←C3h];exact C2Q x hx st
def A1Z (l:List Y8) (k:Nat) (x:Y8):Bool:=Q6 0 10000000000000 x.least&&Q6 0 10000 x.rate&&Q6 0 10000000000000 x.amount&&!(x.rate==0&&x.amount==0)&&(k==0||!decide (x.least≤(l.getD (k - 1) default).least))
theorem C0Z (l:List Y8) (hl:Sm l.length) (st:St):S P 305 [B1 3 L7 l] st fun v st'=>v=.bool (J1 l (A1Z l)&&(decide ((l.length:Int)≥1)&&decide ((l.length:Int)≤6)))∧st'=st:=by
 refine A7 [4] C0 mixed Tryz.func305 (by rfl) rfl rfl rfl ?_;conv=>whnf
 refine lp l.length [0,3] (fun i vs st'=>(∀ k,k<i→A1Z l k (l.getD k default)=true)∧vs=[B1 3 L7 l,eI i]∧st'=st) ?_ ?_
 ·conv=>whnf
  exact ⟨fun k hk=>absurd hk (by omega),rfl,rfl⟩
 ·rintro i vs st' hi ⟨hok,rfl,rfl⟩
  conv=>whnf
  cases h:decide ((i:Int)<(l.length:Int))
  ·obtain rfl:=D7 h hi
   rw [J2 hok,Bool.true_and];conv=>whnf
   refine C4 (fun h=>?_) (fun h=>?_)<;>rw [h]<;>(conv=>whnf)<;>exact ⟨rfl,rfl⟩
  ·have hi':=H0 h
   have yes:A1Z l i (l.getD (i:Int).toNat default)=true→∀ k,k<i+1→A1Z l k (l.getD k default)=true:=fun h=>L9 hok h
   have no:A1Z l i (l.getD (i:Int).toNat default)=false→J1 l (A1Z l)=false:=fun h=>T3 hi' h
   have n1:=A1L (l.getD (i:Int).toNat default).least 10000000000000 st'
   have n2:=A1L (l.getD (i:Int).toNat default).rate 10000 st'
   have n3:=A1L (l.getD (i:Int).toNat default).amount 10000000000000 st'
   have hw:=fun h=>A5V (i:=i) h (by omega)
   rw [show A1Z l i (l.getD (i:Int).toNat default)=(Q6 0 10000000000000 (l.getD (i:Int).toNat default).least&&Q6 0 10000 (l.getD (i:Int).toNat default).rate&&Q6 0 10000000000000 (l.getD (i:Int).toNat default).amount&&!((l.getD (i:Int).toNat default).rate==0&&(l.getD (i:Int).toNat default).amount==0)&&(i==0||!decide ((l.getD (i:Int).toNat default).least≤(l.getD (i - 1) default).least))) from rfl] at yes no
   generalize Q6 0 10000000000000 (l.getD (i:Int).toNat default).least=b1 at n1 yes no
   generalize Q6 0 10000 (l.getD (i:Int).toNat default).rate=b2 at n2 yes no
   generalize Q6 0 10000000000000 (l.getD (i:Int).toNat default).amount=b3 at n3 yes no
   conv=>whnf
   refine ⟨rfl,⟨by omega,by omega⟩,?_⟩;conv=>whnf
   refine ⟨[],[],List.range 41,by kernel_rfl,?_⟩
   have step:∀ b4:Bool,b4=((l.getD (i:Int).toNat default).rate==0&&(l.getD (i:Int).toNat default).amount==0)→True:=fun _ _=>trivial
   rcases Nat.eq_zero_or_pos i with h0 | h0
   ·have h1:decide ((i:Int)>0)=false:=decide_eq_false (by omega)
    rw [show (i==0)=true from by rw [h0];rfl,Bool.true_or,Bool.and_true] at yes no
    repeat' ((conv=>whnf);first | refine ⟨rfl,⟨by omega,by omega⟩,?_⟩ | refine ⟨_,D2 n1,?_⟩ | refine ⟨_,D2 n2,?_⟩ | refine ⟨_,D2 n3,?_⟩ | rw [h1] | cases b1 | cases b2 | cases b3 | (refine C4 (fun h=>?_) (fun h=>?_)<;>rw [h] at yes no ⊢))
    all_goals (conv=>whnf)
    all_goals first
     | (rw [no (by rfl)];exact ⟨rfl,rfl⟩)
     | (refine ⟨rfl,?_⟩;conv=>whnf
        exact nx hi' ⟨yes (by rfl),by rw [C2 (by omega)],rfl⟩)
   ·have h1:decide ((i:Int)>0)=true:=decide_eq_true (by omega)
    rw [show (i==0)=false from beq_false_of_ne (by omega),Bool.false_or] at yes no
    have hw:=hw h0
    repeat' ((conv=>whnf);first | refine ⟨rfl,⟨by omega,by omega⟩,?_⟩ | refine ⟨rfl,⟨by rw [hw];omega,by rw [hw];omega⟩,?_⟩ | refine ⟨_,D2 n1,?_⟩ | refine ⟨_,D2 n2,?_⟩ | refine ⟨_,D2 n3,?_⟩ | rw [h1] | cases b1 | cases b2 | cases b3 | (refine C4 (fun h=>?_) (fun h=>?_)<;>rw [h] at yes no ⊢) | (rw [hw];refine C4 (fun h=>?_) (fun h=>?_)))
    all_goals (conv=>whnf)
    all_goals first
     | (rw [no (by rfl)];exact ⟨rfl,rfl⟩)
     | (rw [no (congrArg not h)];exact ⟨rfl,rfl⟩)
     | (refine ⟨rfl,?_⟩;conv=>whnf
        exact nx hi' ⟨yes (congrArg not h),by rw [C2 (by omega)],rfl⟩)
theorem B8W (l:List Y8):(J1 l (A1Z l)&&(decide ((l.length:Int)≥1)&&decide ((l.length:Int)≤6)))=V0 l:=by
 unfold V0
 rw [Bool.and_comm]
 congr 1
 ·rw [Bool.not_or];congr 1<;>(rw [←decide_not];exact decide_eq_decide.2 (by omega))
 ·rw [←Bool.coe_iff_coe]
  unfold J1 A1Z A2Z Q6
  simp only [Bool.and_eq_true,List.all_eq_true,List.mem_range,Bool.not_eq_true',Bool.or_eq_false_iff,Bool.not_eq_false',decide_eq_true_eq,decide_eq_false_iff_not,Bool.or_eq_true,beq_iff_eq]
  constructor
  ·intro h k hk
   obtain ⟨⟨⟨⟨h1,h2⟩,h3⟩,h4⟩,h5⟩:=h k hk
   refine ⟨⟨⟨⟨⟨⟨?_,by omega⟩,by omega⟩,by omega⟩,by omega⟩,by omega⟩,h4⟩
   split
   ·omega
   ·rcases h5 with h5 | h5<;>omega
  ·intro h
   have pos:∀ k,k<l.length→0≤(l.getD k default).least:=fun k=>by
    induction k with
    | zero=>intro hk;have:=(h 0 hk).1.1.1.1.1.1;rw [if_pos rfl] at this;omega
    | succ k ih=>intro hk;have:=(h (k+1) hk).1.1.1.1.1.1;rw [if_neg (by omega),Nat.add_sub_cancel] at this;have:=ih (by omega);omega
   intro k hk
   obtain ⟨⟨⟨⟨⟨⟨h1,h2⟩,h3⟩,h4⟩,h5⟩,h6⟩,h7⟩:=h k hk
   have:=pos k hk
   refine ⟨⟨⟨⟨⟨by omega,by omega⟩,by omega,by omega⟩,by omega,by omega⟩,h7⟩,?_⟩
   by_cases h0:k=0
   ·exact .inl h0
   ·rw [if_neg h0] at h1;exact .inr h1
structure A0I (p:B2):Prop where
 id:Sm p.id.size
 group:Sm p.group.size
 code:Sm p.code.size
 scope:A0J p.scope
 parts:Sm p.parts.length
 part:∀ x∈p.parts,A0J x.scope
 tiers:Sm p.tiers.length
def A4P (l:List Q0):Bool:=J1 l (fun _ x=>A0i x)&&(decide ((l.length:Int)≥1)&&decide ((l.length:Int)≤3))
def A9P (p:B2):Bool :=
 if p.kind=1 then (decide (p.rate≥1)&&decide (p.rate≤10000))&&p.amount==0&&(p.buy==0&&p.get==0)&&(p.parts.length:Int)==0&&(p.tiers.length:Int)==0
 else if p.kind=2 then p.rate==0&&decide (p.amount≥1)&&decide (p.amount≤1000000000)&&(p.buy==0&&p.get==0)&&(p.parts.length:Int)==0&&(p.tiers.length:Int)==0
 else if p.kind=3 then (decide (p.rate≥1)&&decide (p.rate≤10000))&&p.amount==0&&decide (p.buy≥1)&&decide (p.buy≤100)&&decide (p.get≥1)&&decide (p.get≤100)&&(p.parts.length:Int)==0&&(p.tiers.length:Int)==0
 else if p.kind=4 then p.rate==0&&Q6 0 10000000000000 p.amount&&(p.buy==0&&p.get==0)&&A4P p.parts&&(p.tiers.length:Int)==0&&((p.scope.skus.length:Int)==0&&(p.scope.cats.length:Int)==0)
 else if p.kind=7 then (decide (p.rate≥1)&&decide (p.rate≤10000))&&p.amount==0&&(p.buy==0&&p.get==0)&&(p.parts.length:Int)==0&&(p.tiers.length:Int)==0&&((p.scope.skus.length:Int)==0&&(p.scope.cats.length:Int)==0)&&!p.closes
 else p.rate==0&&p.amount==0&&(p.buy==0&&p.get==0)&&(p.parts.length:Int)==0&&V0 p.tiers
theorem B8p (p:B2):(A4P p.parts&&Q6 0 10000000000000 p.amount)=A3R p:=by
 unfold A4P A3R J1 Q6
 rw [←Bool.coe_iff_coe]
 simp only [Bool.and_eq_true,List.all_eq_true,List.mem_range,Bool.not_eq_true',Bool.or_eq_false_iff,decide_eq_true_eq,decide_eq_false_iff_not,List.any_eq_false,Bool.not_eq_false']
 constructor
 ·rintro ⟨⟨h1,h2⟩,h3⟩
  exact ⟨⟨⟨⟨by omega,by omega⟩,by omega⟩,by omega⟩,fun x hx=>by obtain ⟨k,hk,rfl⟩:=F2 hx;rw [h1 k hk];simp⟩
 ·rintro ⟨h1,h2⟩
  exact ⟨⟨fun k hk=>by have:=h2 _ (B5 hk);simpa using this,by omega⟩,by omega⟩
theorem B8u (p:B2) (hk:1≤p.kind∧p.kind≤7):A9P p=(A4L p&&A4K p):=by
 have hb:=B8p p
 unfold A9P A4L A4K A7a A7b A7c
 rw [←hb]
 rw [A1U,A1U,A1U,A1U]
 have e:(p.scope.skus.length+p.scope.cats.length==0)=(p.scope.skus.length==0&&p.scope.cats.length==0):=by
  rw [←Bool.coe_iff_coe];simp only [Bool.and_eq_true,beq_iff_eq];omega
 have u:∀ m x,Q6 1 m x=true→(x==0)=false:=fun m x h=>by simp only [Q6,Bool.and_eq_true,decide_eq_true_eq] at h;exact beq_false_of_ne (by omega)
 have e4:A4P p.parts=true→(p.parts.length==0)=false:=fun h=>by
  simp only [A4P,Bool.and_eq_true,decide_eq_true_eq] at h;exact beq_false_of_ne (by omega)
 have e5:V0 p.tiers=true→(p.tiers.length==0)=false:=fun h=>by
  simp only [V0,Bool.and_eq_true,Bool.not_eq_true',Bool.or_eq_false_iff,decide_eq_false_iff_not] at h;exact beq_false_of_ne (by omega)
 rw [e]
 rcases (by omega:p.kind=1∨p.kind=2∨p.kind=3∨p.kind=4∨p.kind=5∨p.kind=6∨p.kind=7) with h | h | h | h | h | h | h
 all_goals (rw [h];simp only [show ∀ a b:Int,(if a=b then _ else _)=_ from fun _ _=>rfl,Q6,if_true,if_false,Int.reduceEq,Int.reduceBEq,Bool.true_or,Bool.or_true,Bool.true_and,Bool.and_true,Bool.false_or,Bool.or_false,bne,Bool.not_true,Bool.not_false])
 all_goals (generalize V0 p.tiers=b1 at *;generalize A4P p.parts=b2 at *;generalize (p.parts.length==0)=b3 at *;generalize (p.tiers.length==0)=b4 at *;generalize (p.scope.skus.length==0&&p.scope.cats.length==0)=b5;generalize (p.buy==0&&p.get==0)=b6;generalize (p.rate==0)=b7;generalize (p.amount==0)=b8;generalize decide (p.rate≥1)=b9;generalize decide (p.rate≤10000)=b10)
 all_goals first | done | ac_rfl
theorem B8t (p:B2):G2 p=(F1 p.id&&!decide (p.kind<1)&&!decide (p.kind>7)&&!decide (p.prio<0)&&!decide (p.prio>1000)&&((p.group.toList==(⟨#[]⟩:E0).toList)||F1 p.group)&&((p.code.toList==(⟨#[]⟩:E0).toList)||F1 p.code)&&Y3 p.scope&&Q6 0 10000000000000 p.least&&A9P p):=by
 by_cases hk:1≤p.kind∧p.kind≤7
 ·have e:Q6 0 1000 p.prio=(!decide (p.prio<0)&&!decide (p.prio>1000)):=by
   unfold Q6;congr 1<;>(rw [←decide_not];exact decide_eq_decide.2 (by omega))
  unfold G2 A5R A1G K1
  rw [B8u p hk,e,decide_eq_true (show p.kind≥1 from hk.1),decide_eq_true (show p.kind<8 by omega),decide_eq_false (show ¬ p.kind<1 by omega),decide_eq_false (show ¬ p.kind>7 by omega)]
  simp only [Bool.true_and,Bool.and_true,Bool.not_false,Bool.and_assoc]
 ·have:G2 p=false:=by
   unfold G2
   rw [show (decide (p.kind≥1)&&decide (p.kind<8))=false from by rw [Bool.and_eq_false_iff,decide_eq_false_iff_not,decide_eq_false_iff_not];omega];rfl
  rw [this]
  by_cases h:p.kind<1
  ·rw [decide_eq_true h];simp
  ·rw [decide_eq_true (show p.kind>7 by omega)];simp
set_option maxHeartbeats 8000000 in
theorem B4x (p:B2) (hp:A0I p) (st:St):S P 246 [B9 p] st fun v st'=>v=.bool (G2 p)∧st'=st:=by
 have n1:=A2N p.id hp.id st
 have n2:=A2N p.group hp.group st
 have n3:=A2N p.code hp.code st
 have n4:=B4z p.scope hp.scope st
 have n5:=A1L p.least 10000000000000 st
 have n6:=A1L p.amount 10000000000000 st
 have n7:=C0X p.parts hp.parts hp.part st
 have n8:=C0Z p.tiers hp.tiers st
 rw [B8W] at n8
 rw [show (J1 p.parts (fun _ x=>A0i x)&&(decide ((p.parts.length:Int)≥1)&&decide ((p.parts.length:Int)≤3)))=A4P p.parts from rfl] at n7
 have hC:=B8t p
 generalize hb5:Q6 0 10000000000000 p.least=b5 at *
 generalize hb6:Q6 0 10000000000000 p.amount=b6 at *
 generalize hb7:A4P p.parts=b7 at *
 generalize hb8:V0 p.tiers=b8 at *
 generalize G2 p=R at *
 clear hp hb5
 obtain ⟨id,kind,prio,group,code,closes,scope,least,rate,amount,buy,get,parts,tiers⟩:=p
 simp only at *
 generalize F1 id=b1 at *
 generalize F1 group=b2 at *
 generalize F1 code=b3 at *
 generalize Y3 scope=b4 at *
 obtain ⟨H,hH⟩:∃ H:Bool,H=(b1&&!decide (kind<1)&&!decide (kind>7)&&!decide (prio<0)&&!decide (prio>1000)&&((group.toList==(⟨#[]⟩:E0).toList)||b2)&&((code.toList==(⟨#[]⟩:E0).toList)||b3)&&b4&&b5):=⟨_,rfl⟩
 rw [←hH] at hC
 obtain ⟨q,hq⟩:∃ q:B2,q=⟨id,kind,prio,group,code,closes,scope,least,rate,amount,buy,get,parts,tiers⟩:=⟨_,rfl⟩
 have hB:∀ h:buy=q.buy,True:=fun _=>trivial
 refine B9k [1] [(1,[1,67]),(3,[1,3,4,5,6,7]),(4,[1,3,4,5,6,7,8]),(5,[1,3,4,5,6,7,8,9])] C0 mixed Tryz.func246 (by rfl) rfl rfl rfl ?_;conv=>whnf
 refine ⟨fun us s=>us=[.fptr (B9 ⟨id,kind,prio,group,code,closes,scope,least,rate,amount,buy,get,parts,tiers⟩) 0,.bool (!H)]∧s=st,?_,?_⟩
 ·repeat' ((conv=>whnf);first | refine B3 n1 ?_ | refine B3 n2 ?_ | refine B3 n3 ?_ | refine B3 n4 ?_ | refine B3 n5 ?_ | refine ⟨rfl,?_⟩ | (refine C4 (fun h=>?_) (fun h=>?_)<;>rw [h]))
  all_goals (refine ⟨?_,rfl⟩;refine congrArg (fun b=>[_,AV.bool b]) ?_;rw [hH];clear hH hC n1 n2 n3 n4 n5 n6 n7 n8)
  all_goals (simp only [Bool.not_eq_true',Bool.not_eq_false'] at *;simp only [*,Bool.true_and,Bool.false_and,Bool.and_true,Bool.and_false,Bool.or_true,Bool.or_false,Bool.true_or,Bool.false_or,Bool.not_true,Bool.not_false,Bool.not_not])
 rintro vs s ⟨rfl,rfl⟩
 conv=>whnf
 refine C4 (fun h=>?_) (fun h=>?_)<;>rw [h]
 ·conv=>whnf
  exact ⟨by rw [hC,show H=false by simpa using h];rfl,rfl⟩
 have hT:R=A9P q:=by rw [hC,show H=true by simpa using h,hq];rfl
 clear hC h n1 n2 n3 n4 n5 hH
 conv=>whnf
 refine ⟨fun us s'=>us=[.fptr (B9 ⟨id,kind,prio,group,code,closes,scope,least,rate,amount,buy,get,parts,tiers⟩) 0,.bool (rate==0),.bool (amount==0),.bool (buy==0&&get==0),.bool ((parts.length:Int)==0),.bool ((tiers.length:Int)==0)]∧s'=s,?_,?_⟩
 ·refine .inl ⟨[],[],List.range 27,by kernel_rfl,?_⟩
  repeat' ((conv=>whnf);first | refine ⟨rfl,?_⟩ | (refine C4 (fun h=>?_) (fun h=>?_)<;>rw [h]))
  all_goals rfl
 rintro vs s ⟨rfl,rfl⟩
 conv=>whnf
 refine ⟨fun us s'=>us=[.fptr (B9 ⟨id,kind,prio,group,code,closes,scope,least,rate,amount,buy,get,parts,tiers⟩) 0,.bool (rate==0),.bool (amount==0),.bool (buy==0&&get==0),.bool ((parts.length:Int)==0),.bool ((tiers.length:Int)==0),.bool ((scope.skus.length:Int)==0&&(scope.cats.length:Int)==0)]∧s'=s,?_,?_⟩
 ·repeat' ((conv=>whnf);first | refine ⟨rfl,?_⟩ | (refine C4 (fun h=>?_) (fun h=>?_)<;>rw [h]))
  all_goals rfl
 rintro vs s ⟨rfl,rfl⟩
 conv=>whnf
 refine ⟨fun us s'=>us=[.fptr (B9 ⟨id,kind,prio,group,code,closes,scope,least,rate,amount,buy,get,parts,tiers⟩) 0,.bool (rate==0),.bool (amount==0),.bool (buy==0&&get==0),.bool ((parts.length:Int)==0),.bool ((tiers.length:Int)==0),.bool ((scope.skus.length:Int)==0&&(scope.cats.length:Int)==0),.bool (decide (rate≥1)&&decide (rate≤10000))]∧s'=s,?_,?_⟩
 ·repeat' ((conv=>whnf);first | refine ⟨rfl,?_⟩ | (refine C4 (fun h=>?_) (fun h=>?_)<;>rw [h]))
  all_goals rfl
 rintro vs s ⟨rfl,rfl⟩
 subst hq
 unfold A9P at hT
 simp only [hb6,hb7,hb8] at hT
 generalize (rate==0)=a1 at *
 generalize (amount==0)=a2 at *
 generalize (buy==0&&get==0)=a3 at *
 generalize ((parts.length:Int)==0)=a4 at *
 generalize ((tiers.length:Int)==0)=a5 at *
 generalize ((scope.skus.length:Int)==0&&(scope.cats.length:Int)==0)=a6 at *
 generalize (decide (rate≥1)&&decide (rate≤10000))=a7 at *
 have hk:kind=1∨kind=2∨kind=3∨kind=4∨kind=7∨(kind≠1∧kind≠2∧kind≠3∧kind≠4∧kind≠7):=by omega
 rcases hk with rfl | rfl | rfl | rfl | rfl | ⟨k1,k2,k3,k4,k7⟩
 case' inr.inr.inr.inr.inr =>
  rw [if_neg k1,if_neg k2,if_neg k3,if_neg k4,if_neg k7] at hT
  have e1:=beq_false_of_ne k1
  have e2:=beq_false_of_ne k2
  have e3:=beq_false_of_ne k3
  have e4:=beq_false_of_ne k4
  have e7:=beq_false_of_ne k7
 all_goals try simp only [if_true,if_false,Int.reduceEq] at hT
 all_goals repeat' ((conv=>whnf);first | refine B3 n6 ?_ | refine B3 n7 ?_ | refine B3 n8 ?_ | rw [e1] | rw [e2] | rw [e3] | rw [e4] | rw [e7] | (refine C4 (fun h=>?_) (fun h=>?_)<;>rw [h]))
 all_goals (conv=>whnf)
 all_goals (refine ⟨?_,rfl⟩;show AV.bool _=AV.bool _;rw [hT];clear hT n6 n7 n8;try simp only [Bool.not_eq_true',Bool.not_eq_false'] at *)
 all_goals (simp only [*,Bool.true_and,Bool.false_and,Bool.and_true,Bool.and_false,Bool.or_true,Bool.or_false,Bool.true_or,Bool.false_or,Bool.not_true,Bool.not_false,Bool.not_not])
theorem A6m (p:B2) (hp:A0I p) (hC:G2 p=true) (st:St):S P 246 [B9 p] st fun v st'=>v=.bool true∧st'=st:=by
 have h:=B4x p hp st
 rw [hC] at h;exact h
def A0A (o:List Int) (a:Nat) (x:Int):List Int:=o.take a++x::o.drop a
theorem R3 {o:List Int} {a:Nat} {x:Int} (h:a≤o.length):(A0A o a x).length=o.length+1:=by
 unfold A0A;simp;omega
theorem A7J {o:List Int} {a:Nat} {x:Int} (h:a≤o.length) {j:Nat} (hj:j<o.length+1):gI (A0A o a x) j=if j<a then gI o j else if j=a then x else gI o (j - 1):=by
 unfold A0A gI
 simp only [List.getD_eq_getElem?_getD]
 by_cases h1:j<a
 ·rw [if_pos h1,List.getElem?_append_left (by rw [List.length_take];omega),List.getElem?_take_of_lt h1]
 ·rw [if_neg h1,List.getElem?_append_right (by rw [List.length_take];omega),List.length_take,Nat.min_eq_left h]
  by_cases h2:j=a
  ·rw [if_pos h2,h2,Nat.sub_self];rfl
  ·rw [if_neg h2,show j - a=(j - 1 - a)+1 by omega,List.getElem?_cons_succ,List.getElem?_drop,show a+(j - 1 - a)=j - 1 by omega]
theorem A6e (o:List Int) (a:Nat) (x:Int):(A0A o a x).Perm (o++[x]):=by
 unfold A0A
 refine List.perm_middle.trans ?_
 rw [List.take_append_drop]
 exact (List.perm_append_comm (l₁:=[x]) (l₂:=o))
theorem A3O {R:Int→Int→Prop} {o:List Int} {a:Nat} {x:Int} (hs:o.Pairwise R) (h1:∀ k,k<a→k<o.length→R (gI o k) x) (h2:∀ k,a≤k→k<o.length→R x (gI o k)):(A0A o a x).Pairwise R:=by
 unfold A0A
 rw [List.pairwise_append,List.pairwise_cons]
 refine ⟨hs.sublist (List.take_sublist ..),⟨fun y hy=>?_,hs.sublist (List.drop_sublist ..)⟩,fun y hy z hz=>?_⟩
 ·obtain ⟨k,hk,rfl⟩:=List.getElem_of_mem hy
  rw [List.length_drop] at hk
  have:=h2 (a+k) (by omega) (by omega)
  rw [List.getElem_drop];simpa [gI,show a+k<o.length by omega] using this
 ·obtain ⟨k,hk,rfl⟩:=List.getElem_of_mem hy
  rw [List.length_take] at hk
  rcases List.mem_cons.1 hz with rfl | hz
  ·have:=h1 k (by omega) (by omega)
   rw [List.getElem_take];simpa [gI,show k<o.length by omega] using this
  ·obtain ⟨j,hj,rfl⟩:=List.getElem_of_mem hz
   rw [List.length_drop] at hj
   rw [List.getElem_take,List.getElem_drop]
   exact List.pairwise_iff_getElem.1 hs k (a+j) (by omega) (by omega) (by omega)
theorem B1w {R:Int→Int→Prop} {o:List Int} (hs:o.Pairwise R) {i j:Nat} (hij:i<j) (hj:j<o.length):R (gI o i) (gI o j):=by
 have:=List.pairwise_iff_getElem.1 hs i j (by omega) hj hij
 simpa [gI,show i<o.length by omega,hj] using this
theorem A7d {o p:List Int} (h:o.Perm p) {P:Int→Prop} (hp:∀ x∈p,P x) {k:Nat} (hk:k<o.length):P (gI o k):=hp _ (h.subset (B5 hk))
def A9X (ranks:List Int) (x:Int):QE:=(gI ranks x.toNat,x)
def B1M (ranks:List Int) (x y:Int):Prop:=H7 (A9X ranks y) (A9X ranks x)=false
def A3m (n:Nat):List Int:=(List.range n).map Int.ofNat
theorem B5P (n:Nat):A3m (n+1)=A3m n++[(n:Int)]:=by unfold A3m;rw [List.range_succ,List.map_append];rfl
theorem A5w {n:Nat} {x:Int} (h:x∈A3m n):0≤x∧x.toNat<n:=by
 obtain ⟨k,hk,rfl⟩:=List.mem_map.1 h
 have:=List.mem_range.1 hk
 show 0≤(k:Int)∧(k:Int).toNat<n
 omega
theorem A7L (n:Nat):(A3m n).length=n:=by unfold A3m;simp
theorem B4v (ranks:List Int) (hl:ranks.length≤1000000) (st:St):S P 306 [B6 ranks] st fun v st'=>(∃ o:List Int,o.Perm (A3m ranks.length)∧o.Pairwise (B1M ranks)∧v=B6 o)∧st'=st:=by
 refine S.post (post:=fun v st'=>∃ o:List Int,o.Perm (A3m ranks.length)∧o.Pairwise (B1M ranks)∧G4 3 1 eI o st v st') ?_ (fun v st' ⟨o,h1,h2,h3⟩=>⟨_,st,⟨⟨o,h1,h2,rfl⟩,rfl⟩,h3.shift⟩)
 refine A7 [] C0 mixed Tryz.func306 (by rfl) rfl rfl rfl ?_;conv=>whnf
 refine lp ranks.length [0,3,4] (fun i vs s=>∃ o sv,o.Perm (A3m i)∧o.Pairwise (B1M ranks)∧vs=[B6 ranks,sv,eI i]∧G4 3 1 eI o st sv s) ?_ ?_
 ·conv=>whnf
  exact ⟨[],.emp,.refl _,.nil,rfl,G4.start _ _ _ _⟩
 ·rintro i vs st' hi ⟨o,sv,hp,hs,rfl,hc0⟩
  conv=>whnf
  cases h:decide ((i:Int)<(ranks.length:Int))
  ·obtain rfl:=D7 h hi
   conv=>whnf
   exact ⟨o,hp,hs,hc0⟩
  ·have hi':=H0 h
   have hol:o.length=i:=by rw [hp.length_eq,A7L]
   have hom:∀ {k:Nat},k<o.length→0≤gI o k∧(gI o k).toNat<i:=fun hk=>A7d hp (fun x hx=>A5w hx) hk
   conv=>whnf
   refine lp o.length [0,3,4,5] (fun a vs s=>(∀ k,k<a→gI ranks (gI o k).toNat≥gI ranks i)∧vs=[B6 ranks,sv,eI i,eI a]∧s=st') ?_ ?_
   ·conv=>whnf
    exact ⟨fun k hk=>absurd hk (by omega),rfl,rfl⟩
   ·rintro a vs s ha ⟨hok,rfl,rfl⟩
    conv=>whnf
    refine ⟨[],[],List.range 18,by kernel_rfl,?_⟩
    have hc1:=hc0
    have hB:(a=o.length∨gI ranks (gI o a).toNat<gI ranks i)→(A0A o a (i:Int)).Perm (A3m (i+1))∧(A0A o a (i:Int)).Pairwise (B1M ranks):=fun hB=>by
     refine ⟨by rw [B5P];exact (A6e o a i).trans (hp.append_right _),A3O hs (fun k hk hk2=>?_) (fun k hk hk2=>?_)⟩
     ·have:=hok k hk
      have:=hom hk2
      unfold B1M A9X;rw [U1];simp only [Int.toNat_natCast];omega
     ·rcases hB with hB | hB
      ·omega
      ·have h6:gI ranks (gI o k).toNat≤gI ranks (gI o a).toNat:=by
        rcases Nat.eq_or_lt_of_le hk with e | e
        ·rw [e];exact Int.le_refl _
        ·have:=B1w hs e hk2
         unfold B1M A9X at this;rw [U1] at this;simp only at this;omega
       unfold B1M A9X;rw [U1];simp only [Int.toNat_natCast];omega
    rcases hc1 with ⟨h0,rfl,hst⟩ | ⟨h0,b,g,hb,rfl,rfl,hg⟩
    case' inl =>
     have hst':=hst.symm
     subst hst'
     have hS:=hB (.inl (by omega))
     have hd:decide ((a:Int)<0)=false:=decide_eq_false (by omega)
     conv=>whnf
     rw [hd];conv=>whnf
    case' inr =>
     conv=>whnf
     cases hd:decide ((a:Int)<(o.length:Int))
     case' false =>
      have hS:=hB (.inl (by have:=of_decide_eq_false hd;omega))
      conv=>whnf
     case' true =>
      have hao:=H0 hd
      have hoa:=hom hao
      have hga:g (0+(a:Int).toNat)=eI (gI o a):=by rw [show 0+(a:Int).toNat=a by omega];exact hg a hao
      conv=>whnf
      refine ⟨rfl,⟨by omega,by omega⟩,?_⟩;conv=>whnf
      refine E9 (A0 ..) rfl (by omega) hga ?_;conv=>whnf
      refine ⟨rfl,⟨by omega,by omega⟩,?_⟩;conv=>whnf
      refine ⟨rfl,⟨by omega,by omega⟩,?_⟩;conv=>whnf
      refine C4 (fun h2=>?_) (fun h2=>?_)<;>rw [h2]
      case' refine_1 =>
       conv=>whnf
       refine ⟨rfl,?_⟩;conv=>whnf
       refine nx hao ⟨L9 hok (of_decide_eq_true h2),by rw [C2 (by omega)],rfl⟩
      case' refine_2 =>
       have hS:=hB (.inr (by have h7:=of_decide_eq_false h2;rw [Int.toNat_natCast] at h7;exact Int.not_le.1 h7))
       conv=>whnf
    all_goals
     refine G4.app (q:=r3) (y:=0) (enc:=eI) rfl rfl rfl rfl rfl rfl (by show (_+1) * 8≤140737488355328;omega) hc0 (fun sv' s' hc'=>?_)
     have hln:(o++[0]).length=o.length+1:=by simp
     rcases hc' with ⟨h1,_⟩ | ⟨h1,b',g',hb',rfl,rfl,hg'⟩
     ·omega
     generalize (o++[0]).length=N at *
     subst hln;conv=>whnf
     have hw0:IntKind.i64.wrap (((o.length+1:Nat):Int) - 1)=((o.length - 0:Nat):Int):=by rw [A8 (by omega) (by omega)];omega
     rw [hw0]
     refine lp (o.length - a) [0,3,4,5,6] (fun r vs s=>vs=[B6 ranks,.own 1 b' 0 (o.length+1),eI i,eI a,eI (o.length - r:Nat)]∧∃ f,s=upd st b' ⟨3,1,o.length+1,f⟩∧∀ j,j<o.length+1→f j=eI (if o.length - r<j then gI o (j - 1) else gI (o++[0]) j)) ?_ ?_
     ·conv=>whnf
      exact ⟨rfl,g',rfl,fun j hj=>by rw [if_neg (by omega)];exact hg' j hj⟩
     ·clear hg' hc0
      rintro r vs s hr ⟨rfl,f,rfl,hf⟩
      conv=>whnf
      cases hk:decide (((o.length - r:Nat):Int)>(a:Int))
      ·have hra:r=o.length - a:=by have:=of_decide_eq_false hk;omega
       conv=>whnf
       refine ⟨rfl,⟨by omega,by omega⟩,?_⟩;conv=>whnf
       refine J7 (A0 ..) rfl (by omega) (hf _ (by omega)) (by rfl) ?_;conv=>whnf
       refine ⟨rfl,?_⟩;conv=>whnf
       rw [A5G]
       refine nx hi' ⟨A0A o a (i:Int),.own 1 b' 0 (o.length+1),hS.1,hS.2,by rw [C2 (by omega)],?_⟩
       refine .inr ⟨by rw [R3 ha];omega,b',_,hb',by rw [R3 ha],by rw [R3 ha],fun j hj=>?_⟩
       rw [R3 ha] at hj
       show G6 f (0+(a:Int).toNat) _ j=eI (gI (A0A o a (i:Int)) j)
       rw [A7J ha hj]
       by_cases hja:j=a
       ·subst hja
        rw [show 0+((j:Nat):Int).toNat=j by omega,A5];show eI (i:Int)=_;rw [if_neg (by omega),if_pos rfl]
       ·rw [F4 (by omega),hf j hj]
        congr 1
        by_cases hj2:j<a
        ·rw [if_neg (by omega),if_pos hj2,K5 (by omega)]
        ·rw [if_pos (by omega),if_neg hj2,if_neg hja]
      ·have hra:a<o.length - r:=by have:=of_decide_eq_true hk;omega
       have hw1:=A5V (i:=o.length - r) (by omega) (by omega)
       conv=>whnf
       rw [hw1]
       refine ⟨rfl,⟨by omega,by omega⟩,?_⟩;conv=>whnf
       refine E9 (v:=eI (gI o (o.length - r - 1))) (A0 ..) rfl (by omega) (by rw [hf _ (by omega),if_neg (by omega),K5 (by omega)];congr 2;omega) ?_;conv=>whnf
       refine ⟨rfl,⟨by omega,by omega⟩,?_⟩;conv=>whnf
       refine J7 (A0 ..) rfl (by omega) (hf _ (by omega)) (by rfl) ?_;conv=>whnf
       refine ⟨rfl,?_⟩;conv=>whnf
       rw [A5G,hw1]
       refine nx (by omega) ⟨by rw [show o.length - (r+1)=o.length - r - 1 by omega],_,rfl,fun j hj=>?_⟩
       by_cases hj2:j=o.length - r
       ·subst hj2
        rw [show 0+((o.length - r:Nat):Int).toNat=o.length - r by omega,A5];show eI (gI o (o.length - r - 1))=_;rw [if_pos (by omega)]
       ·rw [F4 (by omega),hf j hj]
        congr 1
        by_cases hj3:o.length - r<j
        ·rw [if_pos hj3,if_pos (by omega)]
        ·rw [if_neg hj3,if_neg (by omega)]
def Z9 (a b:B2):Bool:=if (a.prio != b.prio)=true then decide (a.prio>b.prio) else slt a.id b.id
theorem C0P (a b:B2) (st:St):S P 163 [B9 a,B9 b] st fun v st'=>v=.bool (Z9 a b)∧st'=st:=by
 refine A7 [2,3] C0 mixed Tryz.func163 (by rfl) rfl rfl rfl ?_;conv=>whnf
 unfold Z9
 refine C4 (fun h=>?_) (fun h=>?_)<;>rw [h]<;>(conv=>whnf)<;>exact ⟨rfl,rfl⟩
theorem A2k (a b:B2):Z9 a b=true↔a.prio>b.prio∨(a.prio=b.prio∧slt a.id b.id=true):=by
 unfold Z9
 split
 ·rename_i h;simp only [bne_iff_ne,ne_eq] at h;rw [decide_eq_true_eq];omega
 ·rename_i h;simp only [bne_iff_ne,ne_eq,Classical.not_not] at h;constructor
  ·exact fun h2=>.inr ⟨h,h2⟩
  ·rintro (h2 | h2)
   ·omega
   ·exact h2.2
theorem A7Y {a b:B2} (h:Z9 a b=true):Z9 b a=false:=by
 rw [←Bool.not_eq_true,A2k]
 rw [A2k] at h
 rcases h with h | ⟨h1,h2⟩
 ·rintro (h3 | h3)<;>omega
 ·rintro (h3 | h3)
  ·omega
  ·rw [A5B h2] at h3;cases h3.2
theorem A6Y {a b c:B2} (h:Z9 b a=false) (k:Z9 c b=false):Z9 c a=false:=by
 rw [←Bool.not_eq_true,A2k] at *
 rintro (h3 | ⟨h3,h4⟩)
 ·by_cases e:b.prio>a.prio
  ·exact h (.inl e)
  ·exact k (.inl (by omega))
 ·by_cases e:b.prio=a.prio
  ·have h5:slt b.id a.id=false:=by rw [←Bool.not_eq_true];exact fun e2=>h (.inr ⟨e,e2⟩)
   have h6:slt c.id b.id=false:=by rw [←Bool.not_eq_true];exact fun e2=>k (.inr ⟨by omega,e2⟩)
   rw [A3t h5 h6] at h4;cases h4
  ·by_cases e2:b.prio>a.prio
   ·exact h (.inl e2)
   ·exact k (.inl (by omega))
def A3e (l:List B2) (x y:Int):Prop:=Z9 (D9 l y) (D9 l x)=false
theorem B4N (l:List Int):(C5 l).Pairwise (·≤·):=by
 have:=List.pairwise_mergeSort (le:=fun a b:Int=>decide (a≤b)) (fun a b c h1 h2=>by simp only [decide_eq_true_eq] at *;omega) (fun a b=>by simp only [Bool.or_eq_true,decide_eq_true_eq];omega) l
 exact this.imp (fun h=>by simpa using h)
theorem B8E (l:List Int) (hl:l.length≤1000000) (st:St):S P 308 [B6 l] st fun v st'=>v=B6 (C5 l)∧st'=st:=by
 refine Z8 (ty:=3) ?_
 refine A7 [] C0 mixed Tryz.func308 (by rfl) rfl rfl rfl ?_;conv=>whnf
 refine lp l.length [0,3,4] (fun i vs s=>∃ o sv,o.Perm (l.take i)∧o.Pairwise (·≤·)∧vs=[B6 l,sv,eI i]∧G4 3 1 eI o st sv s) ?_ ?_
 ·conv=>whnf
  exact ⟨[],.emp,.refl _,.nil,rfl,G4.start _ _ _ _⟩
 ·rintro i vs st' hi ⟨o,sv,hp,hs,rfl,hc0⟩
  conv=>whnf
  cases h:decide ((i:Int)<(l.length:Int))
  ·obtain rfl:=D7 h hi
   conv=>whnf
   rw [List.take_length] at hp
   have e:o=C5 l:=List.Perm.eq_of_pairwise (le:=fun a b:Int=>a≤b) (fun a b _ _ h1 h2=>Int.le_antisymm h1 h2) hs (B4N l) (hp.trans (Y4 l).symm)
   rw [←e]
   exact hc0
  ·have hi':=H0 h
   have hol:o.length=i:=by rw [hp.length_eq,List.length_take];omega
   have hom:∀ {k:Nat},k<o.length→True:=fun hk=>trivial
   have hB:∀ a,a≤o.length→(∀ k,a≤k→k<o.length→gI o k>gI l i)→(a=0∨gI o (a - 1)≤gI l i)→(A0A o a (gI l i)).Perm (l.take (i+1))∧(A0A o a (gI l i)).Pairwise (·≤·):=fun a ha hok hB=>by
    refine ⟨by rw [L2 hi'];exact (A6e o a _).trans (hp.append_right _),A3O hs (fun k hk hk2=>?_) (fun k hk hk2=>?_)⟩
    ·rcases hB with hB | hB
     ·omega
     ·rcases Nat.lt_or_ge k (a - 1) with e | e
      ·exact Int.le_trans (B1w hs e (by omega)) hB
      ·rw [show k=a - 1 by omega];exact hB
    ·have:=hok k hk hk2;omega
   have hc1:=hc0
   rcases hc1 with ⟨h0,hsv,hst⟩ | ⟨h0,b,g,hb,hsv,hst,hg⟩
   all_goals rw [hsv]
   all_goals (conv=>whnf)
   all_goals refine lp o.length [0,3,4,5] (fun r vs s=>(∀ k,o.length - r≤k→k<o.length→gI o k>gI l i)∧vs=[B6 l,sv,eI i,eI (o.length - r:Nat)]∧s=st') ?_ ?_
   all_goals first
    | (conv=>whnf
       exact ⟨fun k h1 h2=>absurd h2 (by omega),by first | (rw [hsv];rfl) | (rw [hsv,h0];rfl),rfl⟩)
    | skip
   all_goals
    rintro r vs s hr ⟨hok,rfl,rfl⟩
    conv=>whnf
    refine ⟨[],[],List.range 14,by kernel_rfl,?_⟩
    cases hd:decide (((o.length - r:Nat):Int)>0)
    case' false =>
     have ha:=Nat.sub_le o.length r
     have hS:=hB (o.length - r) ha hok (.inl (by have:=of_decide_eq_false hd;omega))
     generalize o.length - r=a at *
     conv=>whnf
     rw [hd];conv=>whnf
    case' true =>
     have hpos:0<o.length - r:=by have:=of_decide_eq_true hd;omega
     have hw2:=A5V hpos (by omega)
     have hoa:=hom (k:=o.length - r - 1) (by omega)
     first
      | (exfalso;omega)
      | (conv=>whnf
         rw [hd];conv=>whnf
         rw [hsv] at hc0
         rw [hsv,hw2]
         refine ⟨rfl,⟨by omega,by omega⟩,?_⟩;conv=>whnf
         refine E9 (v:=eI (gI o (o.length - r - 1))) (by rw [hst];exact A0 ..) rfl (by omega) (by rw [hg _ (by omega)];congr 2;omega) ?_;conv=>whnf
         refine ⟨rfl,⟨by omega,by omega⟩,?_⟩;conv=>whnf
         refine C4 (fun h2=>?_) (fun h2=>?_)<;>rw [h2]
         ·conv=>whnf
          refine ⟨rfl,?_⟩;conv=>whnf
          refine nx (by omega) ⟨fun k h3 h4=>?_,by rw [hw2,show o.length - (r+1)=o.length - r - 1 by omega],rfl⟩
          rcases Nat.eq_or_lt_of_le h3 with h5 | h5
          ·rw [←h5,show o.length - (r+1)=o.length - r - 1 by omega];exact of_decide_eq_true h2
          ·exact hok k (by omega) h4
         have ha:=Nat.sub_le o.length r
         have hS:=hB (o.length - r) ha hok (.inr (by have h7:=of_decide_eq_false h2;rw [Int.toNat_natCast] at h7;exact Int.not_lt.1 h7))
         clear hw2 hoa
         generalize o.length - r=a at *
         conv=>whnf)
    all_goals
     refine G4.app (q:=r3) (y:=0) (enc:=eI) rfl rfl rfl rfl rfl rfl (by show (_+1) * 8≤140737488355328;omega) hc0 (fun sv' s' hc'=>?_)
     have hln:(o++[0]).length=o.length+1:=by simp
     rcases hc' with ⟨h1,_⟩ | ⟨h1,b',g',hb',rfl,rfl,hg'⟩
     ·omega
     generalize (o++[0]).length=N at *
     subst hln;conv=>whnf
     have hw0:IntKind.i64.wrap (((o.length+1:Nat):Int) - 1)=((o.length - 0:Nat):Int):=by rw [A8 (by omega) (by omega)];omega
     rw [hw0]
     refine lp (o.length - a) [0,3,4,5,6] (fun r vs s=>vs=[B6 l,.own 1 b' 0 (o.length+1),eI i,eI a,eI (o.length - r:Nat)]∧∃ f,s=upd st b' ⟨3,1,o.length+1,f⟩∧∀ j,j<o.length+1→f j=eI (if o.length - r<j then gI o (j - 1) else gI (o++[0]) j)) ?_ ?_
     ·conv=>whnf
      exact ⟨rfl,g',rfl,fun j hj=>by rw [if_neg (by omega)];exact hg' j hj⟩
     ·clear hg' hc0
      rintro r vs s hr ⟨rfl,f,rfl,hf⟩
      conv=>whnf
      cases hk:decide (((o.length - r:Nat):Int)>(a:Int))
      ·have hra:r=o.length - a:=by have:=of_decide_eq_false hk;omega
       conv=>whnf
       refine ⟨rfl,⟨by omega,by omega⟩,?_⟩;conv=>whnf
       refine ⟨rfl,⟨by omega,by omega⟩,?_⟩;conv=>whnf
       refine J7 (A0 ..) rfl (by omega) (hf _ (by omega)) (by rfl) ?_;conv=>whnf
       refine ⟨rfl,?_⟩;conv=>whnf
       rw [A5G]
       refine nx hi' ⟨A0A o a (gI l i),.own 1 b' 0 (o.length+1),hS.1,hS.2,by rw [C2 (by omega)],?_⟩
       refine .inr ⟨by rw [R3 ha];omega,b',_,hb',by rw [R3 ha],by rw [R3 ha],fun j hj=>?_⟩
       rw [R3 ha] at hj
       show G6 f (0+(a:Int).toNat) _ j=eI (gI (A0A o a (gI l i)) j)
       rw [A7J ha hj]
       by_cases hja:j=a
       ·subst hja
        rw [show 0+((j:Nat):Int).toNat=j by omega,A5];show eI (gI l i)=_;rw [if_neg (by omega),if_pos rfl]
       ·rw [F4 (by omega),hf j hj]
        congr 1
        by_cases hj2:j<a
        ·rw [if_neg (by omega),if_pos hj2,K5 (by omega)]
        ·rw [if_pos (by omega),if_neg hj2,if_neg hja]
      ·have hra:a<o.length - r:=by have:=of_decide_eq_true hk;omega
       have hw1:=A5V (i:=o.length - r) (by omega) (by omega)
       conv=>whnf
       rw [hw1]
       refine ⟨rfl,⟨by omega,by omega⟩,?_⟩;conv=>whnf
       refine E9 (v:=eI (gI o (o.length - r - 1))) (A0 ..) rfl (by omega) (by rw [hf _ (by omega),if_neg (by omega),K5 (by omega)];congr 2;omega) ?_;conv=>whnf
       refine ⟨rfl,⟨by omega,by omega⟩,?_⟩;conv=>whnf
       refine J7 (A0 ..) rfl (by omega) (hf _ (by omega)) (by rfl) ?_;conv=>whnf
       refine ⟨rfl,?_⟩;conv=>whnf
       rw [A5G,hw1]
       refine nx (by omega) ⟨by rw [show o.length - (r+1)=o.length - r - 1 by omega],_,rfl,fun j hj=>?_⟩
       by_cases hj2:j=o.length - r
       ·subst hj2
        rw [show 0+((o.length - r:Nat):Int).toNat=o.length - r by omega,A5];show eI (gI o (o.length - r - 1))=_;rw [if_pos (by omega)]
       ·rw [F4 (by omega),hf j hj]
        congr 1
        by_cases hj3:o.length - r<j
        ·rw [if_pos hj3,if_pos (by omega)]
        ·rw [if_neg hj3,if_neg (by omega)]
set_option maxHeartbeats 1000000 in
theorem C0R (l:List B2) (codes:List E0) (hl:l.length≤1000) (hc:Sm codes.length) (st:St):S P 89 [B1 15 B9 l,D6 codes] st fun v st'=>(∃ o:List Int,o.Perm (places l codes l.length)∧o.Pairwise (A3e l)∧v=B6 o)∧st'=st:=by
 refine S.post (post:=fun v st'=>∃ o:List Int,o.Perm (places l codes l.length)∧o.Pairwise (A3e l)∧G4 3 1 eI o st v st') ?_ (fun v st' ⟨o,h1,h2,h3⟩=>⟨_,st,⟨⟨o,h1,h2,rfl⟩,rfl⟩,h3.shift⟩)
 refine A7 [] C0 mixed Tryz.func89 (by rfl) rfl rfl rfl ?_;conv=>whnf
 refine lp l.length [0,1,5,6] (fun i vs s=>∃ o sv,o.Perm (places l codes i)∧o.Pairwise (A3e l)∧vs=[B1 15 B9 l,D6 codes,sv,eI i]∧G4 3 1 eI o st sv s) ?_ ?_
 ·conv=>whnf
  exact ⟨[],.emp,.refl _,.nil,rfl,G4.start _ _ _ _⟩
 ·rintro i vs st' hi ⟨o,sv,hp,hs,rfl,hc0⟩
  conv=>whnf
  cases h:decide ((i:Int)<(l.length:Int))
  ·obtain rfl:=D7 h hi
   conv=>whnf
   exact ⟨o,hp,hs,hc0⟩
  ·have hi':=H0 h
   have hol:o.length≤i:=by rw [hp.length_eq];exact P3 ..
   have hom:∀ {k:Nat},k<o.length→0≤gI o k∧(gI o k).toNat<i:=fun hk=>A7d hp (fun x hx=>T9 hx) hk
   have hps:=A4Q l codes i
   have n1:=B6e codes (l.getD (i:Int).toNat default).code hc st'
   have ea:X3 codes (l.getD i default)=(!(!((l.getD (i:Int).toNat default).code.toList==(⟨#[]⟩:E0).toList))||codes.any fun y=>y.toList==(l.getD (i:Int).toNat default).code.toList):=by
    rw [Bool.not_not];unfold X3 K1;congr 1;congr 1;funext c;exact Bool.beq_comm
   have skip:X3 codes (l.getD i default)=false→o.Perm (places l codes (i+1)):=fun h=>by rw [hps,if_neg (by rw [h];simp),List.append_nil];exact hp
   have hB:X3 codes (l.getD i default)=true→∀ a,a≤o.length→(∀ k,a≤k→k<o.length→Z9 (D9 l i) (D9 l (gI o k))=true)→(a=0∨Z9 (D9 l i) (D9 l (gI o (a - 1)))=false)→(A0A o a (i:Int)).Perm (places l codes (i+1))∧(A0A o a (i:Int)).Pairwise (A3e l):=fun hask a ha hok hB=>by
    refine ⟨by rw [hps,if_pos hask];exact (A6e o a _).trans (hp.append_right _),A3O hs (fun k hk hk2=>?_) (fun k hk hk2=>?_)⟩
    ·rcases hB with hB | hB
     ·omega
     ·rcases Nat.lt_or_ge k (a - 1) with e | e
      ·exact A6Y (B1w hs e (by omega)) hB
      ·rw [show k=a - 1 by omega];exact hB
    ·exact A7Y (hok k hk hk2)
   rw [ea] at hB skip
   generalize (codes.any fun y=>y.toList==(l.getD (i:Int).toNat default).code.toList)=b1 at n1 hB skip
   clear ea hps
   conv=>whnf
   refine ⟨rfl,⟨by omega,by omega⟩,?_⟩;conv=>whnf
   cases hn:(!((l.getD (i:Int).toNat default).code.toList==(⟨#[]⟩:E0).toList))
   case' true =>
    rw [hn] at hB skip;conv=>whnf
    refine ⟨rfl,⟨by omega,by omega⟩,?_⟩;conv=>whnf
    refine B3 n1 ?_
    cases b1
    ·conv=>whnf
     refine ⟨rfl,?_⟩;conv=>whnf
     exact nx hi' ⟨o,sv,skip rfl,hs,by rw [C2 (by omega)],hc0⟩
    replace hB:=hB rfl
   case' false =>
    rw [hn] at hB
    replace hB:=hB rfl
   all_goals clear skip n1
   all_goals (conv=>whnf)
   all_goals
    have hc1:=hc0
    rcases hc1 with ⟨h0,hsv,hst⟩ | ⟨h0,b,g,hb,hsv,hst,hg⟩
    all_goals rw [hsv]
    all_goals (conv=>whnf)
    all_goals refine lp o.length [0,1,5,6,7] (fun r vs s=>(∀ k,o.length - r≤k→k<o.length→Z9 (D9 l i) (D9 l (gI o k))=true)∧vs=[B1 15 B9 l,D6 codes,sv,eI i,eI (o.length - r:Nat)]∧s=st') ?_ ?_
    all_goals first
     | (conv=>whnf
        exact ⟨fun k h1 h2=>absurd h2 (by omega),by first | (rw [hsv];rfl) | (rw [hsv,h0];rfl),rfl⟩)
     | skip
    all_goals
     rintro r vs s hr ⟨hok,rfl,rfl⟩
     conv=>whnf
     refine ⟨[],[],List.range 17,by kernel_rfl,?_⟩
     cases hd:decide (((o.length - r:Nat):Int)>0)
     case' false =>
      have ha:=Nat.sub_le o.length r
      have hS:=hB (o.length - r) ha hok (.inl (by have:=of_decide_eq_false hd;omega))
      generalize o.length - r=a at *
      conv=>whnf
      rw [hd];conv=>whnf
     case' true =>
      have hpos:0<o.length - r:=by have:=of_decide_eq_true hd;omega
      have hw2:=A5V hpos (by omega)
      have hoa:=hom (k:=o.length - r - 1) (by omega)
      first
       | (exfalso;omega)
       | (conv=>whnf
          rw [hd];conv=>whnf
          refine ⟨rfl,⟨by omega,by omega⟩,?_⟩;conv=>whnf
          rw [hsv] at hc0
          rw [hsv,hw2]
          refine ⟨rfl,⟨by omega,by omega⟩,?_⟩;conv=>whnf
          refine E9 (v:=eI (gI o (o.length - r - 1))) (by rw [hst];exact A0 ..) rfl (by omega) (by rw [hg _ (by omega)];congr 2;omega) ?_;conv=>whnf
          refine ⟨rfl,⟨by omega,by omega⟩,?_⟩;conv=>whnf
          refine ⟨_,D2 (C0P (D9 l i) (D9 l (gI o (o.length - r - 1))) _),?_⟩;conv=>whnf
          refine C4 (fun h2=>?_) (fun h2=>?_)<;>rw [h2]
          ·conv=>whnf
           refine ⟨rfl,?_⟩;conv=>whnf
           refine nx (by omega) ⟨fun k h3 h4=>?_,by rw [hw2,show o.length - (r+1)=o.length - r - 1 by omega],rfl⟩
           rcases Nat.eq_or_lt_of_le h3 with h5 | h5
           ·rw [←h5,show o.length - (r+1)=o.length - r - 1 by omega];exact h2
           ·exact hok k (by omega) h4
          have ha:=Nat.sub_le o.length r
          have hS:=hB (o.length - r) ha hok (.inr h2)
          clear hw2 hoa
          generalize o.length - r=a at *
          conv=>whnf)
     all_goals
      refine G4.app (q:=r3) (y:=0) (enc:=eI) rfl rfl rfl rfl rfl rfl (by show (_+1) * 8≤140737488355328;omega) hc0 (fun sv' s' hc'=>?_)
      have hln:(o++[0]).length=o.length+1:=by simp
      rcases hc' with ⟨h1,_⟩ | ⟨h1,b',g',hb',rfl,rfl,hg'⟩
      ·omega
      generalize (o++[0]).length=N at *
      subst hln;conv=>whnf
      have hw0:IntKind.i64.wrap (((o.length+1:Nat):Int) - 1)=((o.length - 0:Nat):Int):=by rw [A8 (by omega) (by omega)];omega
      rw [hw0]
      refine lp (o.length - a) [0,1,5,6,7,8] (fun r vs s=>vs=[B1 15 B9 l,D6 codes,.own 1 b' 0 (o.length+1),eI i,eI a,eI (o.length - r:Nat)]∧∃ f,s=upd st b' ⟨3,1,o.length+1,f⟩∧∀ j,j<o.length+1→f j=eI (if o.length - r<j then gI o (j - 1) else gI (o++[0]) j)) ?_ ?_
      ·conv=>whnf
       exact ⟨rfl,g',rfl,fun j hj=>by rw [if_neg (by omega)];exact hg' j hj⟩
      ·clear hg' hc0
       rintro r vs s hr ⟨rfl,f,rfl,hf⟩
       conv=>whnf
       cases hk:decide (((o.length - r:Nat):Int)>(a:Int))
       ·have hra:r=o.length - a:=by have:=of_decide_eq_false hk;omega
        conv=>whnf
        refine ⟨rfl,⟨by omega,by omega⟩,?_⟩;conv=>whnf
        refine J7 (A0 ..) rfl (by omega) (hf _ (by omega)) (by rfl) ?_;conv=>whnf
        refine ⟨rfl,?_⟩;conv=>whnf
        rw [A5G]
        refine nx hi' ⟨A0A o a (i:Int),.own 1 b' 0 (o.length+1),hS.1,hS.2,by rw [C2 (by omega)],?_⟩
        refine .inr ⟨by rw [R3 ha];omega,b',_,hb',by rw [R3 ha],by rw [R3 ha],fun j hj=>?_⟩
        rw [R3 ha] at hj
        show G6 f (0+(a:Int).toNat) _ j=eI (gI (A0A o a (i:Int)) j)
        rw [A7J ha hj]
        by_cases hja:j=a
        ·subst hja
         rw [show 0+((j:Nat):Int).toNat=j by omega,A5];show eI (i:Int)=_;rw [if_neg (by omega),if_pos rfl]
        ·rw [F4 (by omega),hf j hj]
         congr 1
         by_cases hj2:j<a
         ·rw [if_neg (by omega),if_pos hj2,K5 (by omega)]
         ·rw [if_pos (by omega),if_neg hj2,if_neg hja]
       ·have hra:a<o.length - r:=by have:=of_decide_eq_true hk;omega
        have hw1:=A5V (i:=o.length - r) (by omega) (by omega)
        conv=>whnf
        rw [hw1]
        refine ⟨rfl,⟨by omega,by omega⟩,?_⟩;conv=>whnf
        refine E9 (v:=eI (gI o (o.length - r - 1))) (A0 ..) rfl (by omega) (by rw [hf _ (by omega),if_neg (by omega),K5 (by omega)];congr 2;omega) ?_;conv=>whnf
        refine ⟨rfl,⟨by omega,by omega⟩,?_⟩;conv=>whnf
        refine J7 (A0 ..) rfl (by omega) (hf _ (by omega)) (by rfl) ?_;conv=>whnf
        refine ⟨rfl,?_⟩;conv=>whnf
        rw [A5G,hw1]
        refine nx (by omega) ⟨by rw [show o.length - (r+1)=o.length - r - 1 by omega],_,rfl,fun j hj=>?_⟩
        by_cases hj2:j=o.length - r
        ·subst hj2
         rw [show 0+((o.length - r:Nat):Int).toNat=o.length - r by omega,A5];show eI (gI o (o.length - r - 1))=_;rw [if_pos (by omega)]
        ·rw [F4 (by omega),hf j hj]
         congr 1
         by_cases hj3:o.length - r<j
         ·rw [if_pos hj3,if_pos (by omega)]
         ·rw [if_neg hj3,if_neg (by omega)]
theorem A1w (x:Int) (st:St):S P 223 [eI x] st fun v st'=>v=.bool (Q5 x)∧st'=st:=by
 refine A7 [] C0 mixed Tryz.func223 (by rfl) rfl rfl rfl ?_;conv=>whnf
 unfold Q5
 cases h:decide (0≤x)
 ·conv=>whnf
  exact ⟨rfl,rfl⟩
 ·conv=>whnf
  exact ⟨rfl,rfl⟩
theorem C8A {v:Int} (h0:0≤v) (h1:v≤9223372036854775807):IntKind.i64.wrap ((BitVec.ofInt IntKind.i64.bits v &&& BitVec.ofInt IntKind.i64.bits 1).toNat:Int)=v % 2:=by
 show IntKind.i64.wrap ((BitVec.ofInt 64 v &&& BitVec.ofInt 64 1).toNat:Int)=v % 2
 obtain ⟨n,rfl⟩:=Int.eq_ofNat_of_zero_le h0
 have e1:(BitVec.ofInt 64 ((n:Nat):Int)).toNat=n:=by rw [BitVec.ofInt_natCast,BitVec.toNat_ofNat,Nat.mod_eq_of_lt (by omega)]
 have e2:(BitVec.ofInt 64 1).toNat=1:=by decide
 rw [BitVec.toNat_and,e1,e2,Nat.and_one_is_mod,A8 (by omega) (by omega)];omega
theorem B2l {d q r Y:Int} (h:Y=d * q+r) (h0:0≤r) (h1:r<d):Y / d=q∧Y % d=r:=by
 have:=(Int.ediv_emod_unique (a:=Y) (b:=d) (r:=r) (q:=q) (by omega)).2 ⟨by omega,h0,h1⟩
 exact this
def Y6 (num:Int) (j:Nat):Int:=num / 2 ^ (63 - j)
theorem B8X {num:Int} (h:0≤num) {j:Nat} (hj:j<63):Y6 num (j+1)=2 * Y6 num j+Y6 num (j+1) % 2:=by
 have e:Y6 num j=Y6 num (j+1) / 2:=by
  unfold Y6
  rw [show 63 - j=(63 - (j+1))+1 by omega,Int.pow_succ,Int.ediv_ediv_of_nonneg (Int.pow_nonneg (by omega))]
 omega
theorem A8q {num:Int} (h:0≤num) (j:Nat):0≤Y6 num j:=Int.ediv_nonneg h (Int.pow_nonneg (by omega))
theorem C3j {num:Int} (h:0≤num) (j:Nat):Y6 num j≤num:=Int.ediv_le_self _ h
theorem C1x {num:Int} (h:0≤num) (h1:num≤100000000000000):Y6 num 0=0:=Int.ediv_eq_zero_of_lt h (by show num<2 ^ 63;omega)
theorem B7w (num:Int):Y6 num 63=num:=by unfold Y6;simp
def A7O (x num den:Int):AV:=if x * num / den>100000000000000 then .tuple [eI 0,eI 0,.bool false] else .tuple [eI (x * num / den),eI (x * num % den),.bool true]
set_option maxHeartbeats 1000000 in
theorem B0d (x num den:Int) (hx:0≤x) (hx1:x≤100000000000000) (hn:0≤num) (hn1:num≤100000000000000) (hd:0<den) (hd1:den≤100000000000000) (st:St) :
  S P 282 [eI x,eI num,eI den] st fun v st'=>v=A7O x num den∧st'=st:=by
 refine A7 [] C0 mixed Tryz.func282 (by rfl) rfl rfl rfl ?_;conv=>whnf
 refine lp 63 [0,1,2,9,10,11] (fun j vs s=>(x * Y6 num j / den≤100000000000000)∧vs=[eI x,eI num,eI den,eI (x * Y6 num j / den),eI (x * Y6 num j % den),eI (62 - (j:Int))]∧s=st) ?_ ?_
 ·conv=>whnf
  refine ⟨?_,?_,rfl⟩
  ·rw [C1x hn hn1,Int.mul_zero,Int.zero_ediv];omega
  ·rw [C1x hn hn1,Int.mul_zero,Int.zero_ediv,Int.zero_emod];rfl
 ·rintro j vs s hj ⟨hq,rfl,rfl⟩
  conv=>whnf
  have hY0:0≤x * Y6 num j:=Int.mul_nonneg hx (A8q hn j)
  have hA0:0≤x * Y6 num j / den:=Int.ediv_nonneg hY0 (by omega)
  have hB0:=Int.emod_nonneg (x * Y6 num j) (show den≠0 by omega)
  have hB1:=Int.emod_lt_of_pos (x * Y6 num j) hd
  have hY:=Int.mul_ediv_add_emod (x * Y6 num j) den
  cases h:decide (62 - (j:Int)≥0)
  ·have hj63:j=63:=by have:=of_decide_eq_false h;omega
   subst hj63
   rw [B7w] at hq;conv=>whnf
   refine ⟨?_,rfl⟩
   unfold A7O
   rw [if_neg (by omega),B7w];rfl
  ·have hj':j<63:=by have:=of_decide_eq_true h;omega
   have hC0:0≤x / den:=Int.ediv_nonneg hx (by omega)
   have hC1:x / den≤x:=Int.ediv_le_self _ hx
   have hD0:=Int.emod_nonneg x (show den≠0 by omega)
   have hD1:=Int.emod_lt_of_pos x hd
   have hX:=Int.mul_ediv_add_emod x den
   have hst:=B8X hn hj'
   have hN0:=A8q hn (j+1)
   have hN1:=C3j hn (j+1)
   have hbit:x * Y6 num (j+1)=2 * (x * Y6 num j)+x * (Y6 num (j+1) % 2):=by
    conv=>lhs;rw [hst]
    rw [Int.mul_add,Int.mul_left_comm]
   have hshr:Int.fdiv num (2 ^ (min (IntKind.u64.wrap (62 - (j:Int))).toNat IntKind.i64.bits))=Y6 num (j+1):=by
    show Int.fdiv num (2 ^ (min (IntKind.u64.wrap (62 - (j:Int))).toNat 64))=_
    rw [C3 (by omega) (by omega)]
    unfold Y6
    rw [show min (62 - (j:Int)).toNat 64=63 - (j+1) by omega,Int.fdiv_eq_ediv_of_nonneg _ (Int.pow_nonneg (by omega))]
   have hbig:x * Y6 num (j+1) / den>100000000000000→A7O x num den=.tuple [eI 0,eI 0,.bool false]:=fun hb=>by
    unfold A7O
    refine if_pos ?_
    have:x * Y6 num (j+1) / den≤x * num / den:=Int.ediv_le_ediv hd (Int.mul_le_mul_of_nonneg_left hN1 hx)
    omega
   have hand:=C8A (v:=Y6 num (j+1)) hN0 (by omega)
   have htd:x.tdiv den=x / den:=Int.tdiv_eq_ediv_of_nonneg hx
   have htm:x.tmod den=x % den:=Int.tmod_eq_emod_of_nonneg hx
   generalize hAe:x * Y6 num j / den=A at *
   generalize hBe:x * Y6 num j % den=B at *
   generalize hYe:x * Y6 num j=Y at *
   generalize hCe:x / den=C at *
   generalize hDe:x % den=D at *
   have w1:IntKind.i64.wrap (2 * A)=2 * A:=A8 (by omega) (by omega)
   have w2:IntKind.i64.wrap (2 * B)=2 * B:=A8 (by omega) (by omega)
   conv=>whnf
   rw [w1,w2]
   -- doubled
   refine C4 (fun h1=>?_) (fun h1=>?_)<;>rw [h1]
   case' refine_1 =>
    have:=of_decide_eq_true h1
    have w3:IntKind.i64.wrap (2 * A+1)=2 * A+1:=A8 (by omega) (by omega)
    have w4:IntKind.i64.wrap (2 * B - den)=2 * B - den:=A8 (by omega) (by omega)
    have hq1:2 * Y=den * (2 * A+1)+(2 * B - den):=by rw [Int.mul_add,Int.mul_left_comm,Int.mul_one];omega
    have hq2:0≤2 * A+1∧2 * A+1≤200000000000001:=by omega
    have hr1:0≤2 * B - den∧2 * B - den<den:=by omega
    conv=>whnf
    rw [w3,w4]
    generalize 2 * A+1=q1 at *
    generalize 2 * B - den=r1 at *
   case' refine_2 =>
    have:=of_decide_eq_false h1
    have hq1:2 * Y=den * (2 * A)+(2 * B):=by rw [Int.mul_left_comm];omega
    have hq2:0≤2 * A∧2 * A≤200000000000001:=by omega
    have hr1:0≤2 * B∧2 * B<den:=by omega
    conv=>whnf
    generalize 2 * A=q1 at *
    generalize 2 * B=r1 at *
   all_goals clear w1 w2 hY hA0 hB0 hB1 hq hAe hBe
   all_goals (rw [decide_eq_false (show ¬ IntKind.u64.wrap (62 - (j:Int))<0 by rw [C3 (by omega) (by omega)];omega)])
   all_goals (conv=>whnf)
   all_goals rw [hshr,hand]
   all_goals refine C4 (fun h2=>?_) (fun h2=>?_)<;>rw [h2]
   -- a bit of num
   case' refine_2.true.refine_1.refine_1 | refine_2.true.refine_2.refine_1 =>
    have hb1:Y6 num (j+1) % 2=1:=eq_of_beq h2
    have w5:IntKind.i64.wrap C=C:=A8 (by omega) (by omega)
    have w6:IntKind.i64.wrap (q1+C)=q1+C:=A8 (by omega) (by omega)
    have w7:IntKind.i64.wrap (r1+D)=r1+D:=A8 (by omega) (by omega)
    have hd0:decide (den=0)=false:=decide_eq_false (by omega)
    rw [hb1,Int.mul_one] at hbit;conv=>whnf
    refine ⟨[],[],List.range 12,by kernel_rfl,?_⟩;conv=>whnf
    rw [hd0];conv=>whnf
    rw [hd0];conv=>whnf
    rw [htd,htm,w5,w6,w7]
    refine C4 (fun h3=>?_) (fun h3=>?_)<;>rw [h3]
    case' refine_1 =>
     have:=of_decide_eq_true h3
     have w8:IntKind.i64.wrap (q1+C+1)=q1+C+1:=A8 (by omega) (by omega)
     have w9:IntKind.i64.wrap (r1+D - den)=r1+D - den:=A8 (by omega) (by omega)
     obtain ⟨e1,e2⟩:=B2l (Y:=x * Y6 num (j+1)) (d:=den) (q:=q1+C+1) (r:=r1+D - den) (by rw [hbit,Int.mul_add,Int.mul_add,Int.mul_one];omega) (by omega) (by omega)
     conv=>whnf
     rw [w8,w9,←e1,←e2]
    case' refine_2 =>
     have:=of_decide_eq_false h3
     obtain ⟨e1,e2⟩:=B2l (Y:=x * Y6 num (j+1)) (d:=den) (q:=q1+C) (r:=r1+D) (by rw [hbit,Int.mul_add];omega) (by omega) (by omega)
     conv=>whnf
     rw [←e1,←e2]
   case' refine_2.true.refine_1.refine_2 | refine_2.true.refine_2.refine_2 =>
    have hb1:Y6 num (j+1) % 2=0:=by have:=ne_of_beq_false h2;omega
    rw [hb1,Int.mul_zero,Int.add_zero] at hbit
    obtain ⟨e1,e2⟩:=B2l (Y:=x * Y6 num (j+1)) (d:=den) (q:=q1) (r:=r1) (by rw [hbit];omega) (by omega) (by omega)
    conv=>whnf
    rw [←e1,←e2]
   all_goals refine C4 (fun h4=>?_) (fun h4=>?_)<;>rw [h4]
   all_goals (conv=>whnf)
   all_goals first
    | exact ⟨by rw [hbig (of_decide_eq_true h4)];rfl,rfl⟩
    | (refine ⟨rfl,?_⟩;conv=>whnf
       have w10:IntKind.i64.wrap (62 - (j:Int) - 1)=62 - ((j+1:Nat):Int):=by rw [A8 (by omega) (by omega)];omega
       exact nx hj' ⟨by have:=of_decide_eq_false h4;omega,by rw [w10],rfl⟩)
theorem C1a (x num den round:Int) (st:St):S P 224 [eI x,eI num,eI den,eI round] st fun v st'=>v=.tuple [eI (A1O x num den round).1,eI (A1O x num den round).2]∧st'=st:=by
 refine A7 [] C0 mixed Tryz.func224 (by rfl) rfl rfl rfl ?_
 by_cases hok:(Q5 x&&Q5 num&&Q5 den&&den != 0&&decide (0≤round)&&decide (round<3))=false
 ·rw [show A1O x num den round=(0,2) from if_pos hok]
  have n1:=A1w x st
  have n2:=A1w num st
  have hok':¬(Q5 x=true∧Q5 num=true∧1≤den∧den≤100000000000000∧0≤round∧round≤2):=fun ⟨h1,h2,h3,h4,h5,h6⟩=>by
   rw [h1,h2,(A0u den).2 ⟨by omega,h4⟩,decide_eq_true h5,decide_eq_true (show round<3 by omega),bne_iff_ne.2 (show den≠0 by omega)] at hok;cases hok
  repeat' ((conv=>whnf);first | refine B3 n1 ?_ | refine B3 n2 ?_ | (refine C4 (fun h=>?_) (fun h=>?_)<;>rw [h]))
  all_goals (conv=>whnf)
  all_goals first
   | exact ⟨rfl,rfl⟩
   | (exfalso
      simp only [Bool.not_eq_false',decide_eq_false_iff_not] at *
      exact hok' ⟨by assumption,by assumption,by omega,by omega,by omega,by omega⟩)
 ·rw [Bool.not_eq_false] at hok
  have ht:A1O x num den round=if x * num / den>100000000000000 then (0,5) else if X0 (x * num / den) (x * num % den) den round>100000000000000 then (0,5) else (X0 (x * num / den) (x * num % den) den round,0):=if_neg (by rw [hok];simp)
  simp only [Bool.and_eq_true,bne_iff_ne,ne_eq,decide_eq_true_eq] at hok
  obtain ⟨⟨⟨⟨⟨x0,n0⟩,d0⟩,d2⟩,r0⟩,r1⟩:=hok
  have x1:=(A0u x).1 x0
  have n1:=(A0u num).1 n0
  have d1:=(A0u den).1 d0
  have e1:decide (den<1)=false:=decide_eq_false (by omega)
  have e2:decide (den>100000000000000)=false:=decide_eq_false (by omega)
  have e3:decide (round<0)=false:=decide_eq_false (by omega)
  have e4:decide (round>2)=false:=decide_eq_false (by omega)
  have hp:=B0d x num den (by omega) (by omega) (by omega) (by omega) (by omega) (by omega) st
  have hN:0≤x * num:=Int.mul_nonneg x1.1 n1.1
  have hq0:0≤x * num / den:=Int.ediv_nonneg hN (by omega)
  have hm0:=Int.emod_nonneg (x * num) d2
  have hm1:=Int.emod_lt_of_pos (x * num) (show 0<den by omega)
  have m1:=A1w x st
  have m2:=A1w num st
  rw [x0] at m1
  rw [n0] at m2
  unfold A7O at hp
  rw [ht]
  clear ht
  generalize x * num / den=q at *
  generalize x * num % den=r at *
  have bq:0≤X0 q r den round:=by unfold X0;repeat' split<;>omega
  by_cases hbig:q>100000000000000
  ·rw [if_pos hbig] at hp ⊢
   repeat' ((conv=>whnf);first | refine B3 m1 ?_ | refine B3 m2 ?_ | refine B3 hp ?_ | rw [e1] | rw [e2] | rw [e3] | rw [e4])
   conv=>whnf
   exact ⟨rfl,rfl⟩
  ·rw [if_neg hbig] at hp ⊢
   have w1:IntKind.i64.wrap (2 * r)=2 * r:=A8 (by omega) (by omega)
   have w2:IntKind.i64.wrap (q+1)=q+1:=A8 (by omega) (by omega)
   have w3:q.tmod 2=q % 2:=Int.tmod_eq_emod_of_nonneg hq0
   have m3:=A1w q st
   have m4:=A1w (q+1) st
   rcases (by omega:round=0∨round=1∨round=2) with rfl | rfl | rfl
   all_goals repeat' ((conv=>whnf);first | refine B3 m1 ?_ | refine B3 m2 ?_ | refine B3 m3 ?_ | refine B3 m4 ?_ | refine B3 hp ?_ | rw [e1] | rw [e2] | rw [e3] | rw [e4] | rw [w1] | rw [w2] | rw [w3] | (refine C4 (fun h=>?_) (fun h=>?_)<;>rw [h]))
   all_goals (conv=>whnf)
   all_goals (refine ⟨?_,rfl⟩;show AV.tuple [AV.int .i64 _,AV.int .i64 _]=AV.tuple [AV.int .i64 _,AV.int .i64 _])
   all_goals (simp only [X0,Bool.not_eq_true',Bool.not_eq_false',decide_eq_true_eq,decide_eq_false_iff_not,beq_iff_eq,beq_eq_false_iff_ne,ne_eq,Q5,Bool.and_eq_true,Bool.and_eq_false_iff,if_true,if_false,Int.reduceEq] at *)
   all_goals (repeat' split)
   all_goals first | rfl | (exfalso;omega)
theorem B8D (x rate round:Int) (st:St):S P 169 [eI x,eI rate,eI round] st fun v st'=>v=.tuple [eI (if 0≤rate∧rate≤10000 then A1O x rate 10000 round else (0,2)).1,eI (if 0≤rate∧rate≤10000 then A1O x rate 10000 round else (0,2)).2]∧st'=st:=by
 refine A7 [] C0 mixed Tryz.func169 (by rfl) rfl rfl rfl ?_
 repeat' ((conv=>whnf);first | refine B3 (C1a _ _ _ _ st) ?_ | (refine C4 (fun h=>?_) (fun h=>?_)<;>rw [h]))
 all_goals (conv=>whnf)
 all_goals (refine ⟨?_,rfl⟩;simp only [decide_eq_true_eq,decide_eq_false_iff_not] at *)
 ·rw [if_neg (by omega)];rfl
 ·rw [if_neg (by omega)];rfl
 ·rw [if_pos (by omega)];rfl
theorem A7i (x rate:Int) (st:St):S P 92 [eI x,eI rate] st fun v st'=>v=eI (I1 x rate)∧st'=st:=by
 refine A7 [] C0 mixed Tryz.func92 (by rfl) rfl rfl rfl ?_;conv=>whnf
 refine B3 (B8D x rate 1 st) ?_;conv=>whnf
 exact ⟨rfl,rfl⟩
theorem B0e (l:List Int) (hl:l.length≤1000000) (h0:∀ x∈l,0≤x) (hs:A6 l≤100000000000000000) (st:St):S P 119 [B6 l] st fun v st'=>v=eI (A6 l)∧st'=st:=by
 refine A7 [] C0 mixed Tryz.func119 (by rfl) rfl rfl rfl ?_;conv=>whnf
 refine lp l.length [0,3,4] (fun i vs s=>vs=[B6 l,eI (A6 (l.take i)),eI i]∧s=st) ?_ ?_
 ·conv=>whnf
  exact ⟨rfl,rfl⟩
 ·rintro i vs st' hi ⟨rfl,rfl⟩
  conv=>whnf
  cases h:decide ((i:Int)<(l.length:Int))
  ·obtain rfl:=D7 h hi
   conv=>whnf
   exact ⟨by rw [List.take_length];rfl,rfl⟩
  ·have hi':=H0 h
   have e:=N7 hi'
   have h1:=D0 (l:=l.take i) (fun x hx=>h0 x (List.take_subset _ _ hx))
   have h2:=N0 h0 (i+1)
   have h3:=h0 _ (B5 hi')
   have h4:gI l i=l.getD i default:=rfl
   have w:IntKind.i64.wrap (A6 (l.take i)+l.getD (i:Int).toNat default)=A6 (l.take (i+1)):=by rw [e];exact A8 (by rw [Int.toNat_natCast];omega) (by rw [Int.toNat_natCast];omega)
   conv=>whnf
   refine ⟨rfl,⟨by omega,by omega⟩,?_⟩;conv=>whnf
   rw [w]
   refine ⟨rfl,?_⟩;conv=>whnf
   exact nx hi' ⟨by rw [C2 (by omega)],rfl⟩
theorem A5z (us:List B7) (mine:List Int) (hl:mine.length≤1000000) (hm:∀ k,k<mine.length→0≤gI mine k∧(gI mine k).toNat<us.length) (st:St):S P 165 [C9 us,B6 mine] st fun v st'=>v=B6 (E8 us mine)∧st'=st:=by
 refine Z8 (ty:=2) ?_
 refine A7 [] C0 mixed Tryz.func165 (by rfl) rfl rfl rfl ?_;conv=>whnf
 refine lp mine.length [0,1,5,6] (fun i vs s=>∃ sv,vs=[C9 us,B6 mine,sv,eI i]∧G4 2 1 eI (E8 us (mine.take i)) st sv s) ?_ ?_
 ·conv=>whnf
  exact ⟨.emp,rfl,G4.start _ _ _ _⟩
 ·rintro i vs st' hi ⟨sv,rfl,hc⟩
  conv=>whnf
  cases h:decide ((i:Int)<(mine.length:Int))
  ·obtain rfl:=D7 h hi
   rw [List.take_length] at hc;conv=>whnf
   exact hc
  ·have hi':=H0 h
   have hx:=hm i hi'
   have hlen:(E8 us (mine.take i)).length=i:=by unfold E8;rw [List.length_map,List.length_take];omega
   conv=>whnf
   refine ⟨rfl,⟨by omega,by omega⟩,?_⟩;conv=>whnf
   refine ⟨rfl,⟨by show 0≤gI mine i;omega,by show gI mine i<(us.length:Int);omega⟩,?_⟩;conv=>whnf
   refine G4.app (q:=r2) (y:=(gU us (gI mine i).toNat).net) rfl rfl rfl rfl rfl rfl (by show (_+1) * 8≤140737488355328;omega) hc (fun sv' s' hc'=>?_);conv=>whnf
   refine ⟨rfl,?_⟩;conv=>whnf
   refine nx hi' ⟨sv',by rw [C2 (by omega)],?_⟩
   unfold E8 at hc' ⊢
   rw [A2B hi'];exact hc'
def A3r (total:Int) (ws:List Int):List Int:=(List.range ws.length).map fun k=>total * gI ws k % A6 ws
theorem C2G {total:Int} {ws:List Int} {o:List Int} (hp:o.Perm (A3m ws.length)) (hs:o.Pairwise (B1M (A3r total ws))):o=(shR total (A6 ws) ws).map (·.2):=by
 have e:o.map (A9X (A3r total ws))=shR total (A6 ws) ws:=by
  refine List.Perm.eq_of_pairwise (le:=fun a b=>H7 b a=false) (fun a b _ _ h1 h2=>A7S h2 h1) (List.pairwise_map.2 hs) (A6o ..) (((hp.map _).trans ?_).trans (A1x ..).symm)
  unfold A3m
  rw [List.map_map]
  refine List.Perm.of_eq (List.map_congr_left fun k hk=>?_)
  have:=List.mem_range.1 hk
  show (gI (A3r total ws) ((k:Int).toNat),(k:Int))=shE total (A6 ws) ws k
  unfold A3r
  rw [Int.toNat_natCast,J9 _ this];rfl
 rw [←e,List.map_map]
 conv=>lhs;rw [←List.map_id o]
 rfl
theorem C0j {total:Int} {ws:List Int} (h:P5 total ws):D8 total ws=P6 ((List.range ws.length).map (shQ total (A6 ws) ws)) ((shR total (A6 ws) ws).take (G0 total (A6 ws) ws ws.length).toNat)∧0≤G0 total (A6 ws) ws ws.length∧G0 total (A6 ws) ws ws.length≤ws.length:=by
 by_cases hS:A6 ws=0
 ·have ht:=h.none hS
  have hq:∀ k,shQ total (A6 ws) ws k=0:=fun k=>by unfold shQ;rw [ht,Int.zero_mul,Int.zero_ediv]
  have hl:G0 total (A6 ws) ws ws.length=0:=by
   unfold G0
   rw [show (List.range ws.length).map (shQ total (A6 ws) ws)=List.replicate ws.length 0 from by
    rw [List.eq_replicate_iff]
    exact ⟨by simp,fun b hb=>by obtain ⟨k,_,rfl⟩:=List.mem_map.1 hb;exact hq k⟩,ht]
   have:∀ n,A6 (List.replicate n 0)=0:=fun n=>by
    induction n with
    | zero=>rfl
    | succ n ih=>rw [List.replicate_succ',G5,ih];rfl
   rw [this];rfl
  refine ⟨?_,by omega,by omega⟩
  rw [hl]
  unfold D8
  rw [if_pos hS]
  show ws.map (fun _=>0)=P6 _ []
  unfold P6
  refine List.ext_getElem (by simp) fun k h1 h2=>?_
  simp [hq]
 ·have hS':0<A6 ws:=by have:=D0 h.w0;omega
  refine ⟨?_,A2p h hS'⟩
  unfold D8;rw [if_neg hS]
set_option maxHeartbeats 1000000 in
theorem B0b (total:Int) (ws:List Int) (h:P5 total ws) (st:St):S P 253 [eI total,B6 ws] st fun v st'=>v=.tuple [B6 (D8 total ws),eI 0]∧st'=st:=by
 obtain ⟨hR,hl0,hl1⟩:=C0j h
 have hlen:=h.len
 have hS0:=D0 h.w0
 have hSm:=h.sum
 have ht0:=h.t0
 have ht1:=h.t1
 refine S.post (post:=fun v st'=>∃ (bo:Nat) (f:Nat→AV),st bo=none∧v=.tuple [.own 1 bo 0 ws.length,eI 0]∧st'=upd st bo ⟨2,1,ws.length,f⟩∧∀ k,k<ws.length→f k=eI (gI (D8 total ws) k)) ?_
  (fun v st' ⟨bo,f,hb,hv,hs,hf⟩=>⟨_,st,⟨rfl,rfl⟩,by
   subst hv;subst hs
   have hL:(D8 total ws).length=ws.length:=by rw [hR,A1c];simp
   have e:B6 (D8 total ws)=.arr 1 ws.length (fun k=>eI (gI (D8 total ws) k)):=by unfold B6 B1;rw [hL]
   rw [e]
   have h2:=L0 (st:=upd st bo ⟨2,1,ws.length,f⟩) (e:=1) (b:=bo) (n:=ws.length) (f:=fun k=>eI (gI (D8 total ws) k)) (A0 ..) rfl (Nat.le_refl _) hf
   rw [A2G hb] at h2
   exact B4.tuple (B4.cons h2 (B4.keep _ _)) rfl⟩)
 refine A7 [] C0 mixed Tryz.func253 (by rfl) rfl rfl rfl ?_;conv=>whnf
 refine B3 (A1w total st) ?_
 rw [(A0u total).2 ⟨ht0,ht1⟩];conv=>whnf
 rw [decide_eq_false (show ¬(ws.length:Int)>100000 by omega)];conv=>whnf
 refine lp ws.length [0,1,6] (fun i vs s=>vs=[eI total,B6 ws,eI i]∧s=st) ?_ ?_
 ·conv=>whnf
  exact ⟨rfl,rfl⟩
 ·rintro i vs st' hi ⟨rfl,rfl⟩
  conv=>whnf
  cases hd:decide ((i:Int)<(ws.length:Int))
  case true =>
   have hi':=H0 hd
   have hm:=B5 hi'
   conv=>whnf
   refine ⟨rfl,⟨by omega,by omega⟩,?_⟩;conv=>whnf
   refine B3 (A1w _ _) ?_
   rw [(A0u (ws.getD (i:Int).toNat default)).2 ⟨h.w0 _ hm,Int.le_trans (P9 h.w0 hm) hSm⟩];conv=>whnf
   refine ⟨rfl,?_⟩;conv=>whnf
   exact nx hi' ⟨by rw [C2 (by omega)],rfl⟩
  clear hd
  conv=>whnf
  refine lp ws.length [0,1,7,8] (fun i vs s=>vs=[eI total,B6 ws,eI (A6 (ws.take i)),eI i]∧s=st') ?_ ?_
  ·conv=>whnf
   exact ⟨rfl,rfl⟩
  ·clear hi
   rintro i vs st hi ⟨rfl,rfl⟩
   conv=>whnf
   cases hd:decide ((i:Int)<(ws.length:Int))
   case true =>
    have hi':=H0 hd
    have e:=N7 hi'
    have h1:=D0 (l:=ws.take i) (fun x hx=>h.w0 x (List.take_subset _ _ hx))
    have h2:=N0 h.w0 (i+1)
    have h3:=h.w0 _ (B5 hi')
    have w:IntKind.i64.wrap (A6 (ws.take i)+ws.getD (i:Int).toNat default)=A6 (ws.take (i+1)):=by rw [e];exact A8 (by rw [Int.toNat_natCast];omega) (by rw [Int.toNat_natCast];show A6 (ws.take i)+gI ws i≤_;omega)
    conv=>whnf
    refine ⟨rfl,⟨by omega,by omega⟩,?_⟩;conv=>whnf
    rw [w,decide_eq_false (show ¬ A6 (ws.take (i+1))>100000000000000 by omega)];conv=>whnf
    refine ⟨rfl,?_⟩;conv=>whnf
    exact nx hi' ⟨by rw [C2 (by omega)],rfl⟩
   obtain rfl:=D7 hd hi
   rw [List.take_length]
   have hz:(A6 ws==0)=true→(total != 0)=false:=fun e=>by rw [h.none (eq_of_beq e)];rfl
   cases h0:(A6 ws==0)
   case' true =>
    conv=>whnf
    rw [h0];conv=>whnf
    rw [hz h0]
   case' false =>
    conv=>whnf
    rw [h0]
   all_goals (conv=>whnf)
   all_goals refine mkO rfl rfl rfl (by show 8 * ws.length≤_;omega) (by omega) (by rfl) (fun b1 hb1=>?_)
   all_goals (conv=>whnf)
   all_goals refine mkO rfl rfl rfl (by show 8 * ws.length≤_;omega) (by omega) (by rfl) (fun b2 hb2=>?_)
   all_goals (conv=>whnf)
   all_goals
    have hne:b1≠b2:=fun e=>by subst e;rw [A0] at hb2;cases hb2
    have hb2':st b2=none:=by rw [A9 hne.symm] at hb2;exact hb2
    refine lp ws.length [0,1,7,9,10,11,12] (fun i vs s=>vs=[eI total,B6 ws,eI (A6 ws),.own 1 b1 0 ws.length,.own 1 b2 0 ws.length,eI (G0 total (A6 ws) ws i),eI i]∧(A6 ws=0→i=0)∧∃ f1 f2,s=upd (upd st b1 ⟨2,1,ws.length,f1⟩) b2 ⟨2,1,ws.length,f2⟩∧∀ k,k<ws.length→f1 k=eI (if k<i then shQ total (A6 ws) ws k else 0)∧f2 k=eI (if k<i then total * gI ws k % A6 ws else 0)) ?_ ?_
    ·conv=>whnf
     exact ⟨by rw [show G0 total (A6 ws) ws 0=total from by unfold G0;simp [A6]];rfl,fun _=>rfl,_,_,rfl,fun k hk=>⟨by rw [if_neg (by omega)];rfl,by rw [if_neg (by omega)];rfl⟩⟩
    ·rintro i vs s hi ⟨rfl,hSi,f1,f2,rfl,hf⟩
     conv=>whnf
     have fin:(∀ k,k<ws.length→f1 k=eI (shQ total (A6 ws) ws k)∧f2 k=eI (total * gI ws k % A6 ws))→G0 total (A6 ws) ws i=G0 total (A6 ws) ws ws.length→True:=fun _ _=>trivial
     have hend:(i=ws.length∨A6 ws=0)→(∀ k,k<ws.length→f1 k=eI (shQ total (A6 ws) ws k)∧f2 k=eI (total * gI ws k % A6 ws))∧G0 total (A6 ws) ws i=G0 total (A6 ws) ws ws.length:=fun hE=>by
      rcases hE with hE | hE
      ·subst hE
       exact ⟨fun k hk=>by have:=hf k hk;rwa [if_pos hk,if_pos hk] at this,rfl⟩
      ·have hi0:=hSi hE
       have ht:=h.none hE
       have hq:∀ k,shQ total (A6 ws) ws k=0:=fun k=>by unfold shQ;rw [ht,Int.zero_mul,Int.zero_ediv]
       have hz:∀ n,A6 ((List.range n).map (shQ total (A6 ws) ws))=0:=fun n=>by
        induction n with
        | zero=>rfl
        | succ n ih=>rw [N1,ih,hq];rfl
       refine ⟨fun k hk=>?_,?_⟩
       ·have:=hf k hk
        rw [if_neg (by omega),if_neg (by omega)] at this
        rw [hq,ht,Int.zero_mul,Int.zero_emod];exact this
       ·unfold G0;rw [hz,hz]
     cases hd:decide ((i:Int)<(ws.length:Int))
     case' false =>
      have hE:=hend (.inl (D7 hd hi))
      conv=>whnf
     case' true =>
      have hi':=H0 hd
      conv=>whnf
      cases hp:decide (A6 ws>0)
      case' false =>
       have hE:=hend (.inr (by have:=of_decide_eq_false hp;omega))
       conv=>whnf
      case' true =>
       have hS:0<A6 ws:=of_decide_eq_true hp
       have hm:gI ws i∈ws:=B5 hi'
       have hqb:=A3Y h hS (show i≤ws.length by omega)
       have hqb':=A3Y h hS (show i+1≤ws.length by omega)
       have hsr:=N1 (shQ total (A6 ws) ws) i
       have hq:=A3s h hS hi'
       have hpt:=B0d total (gI ws i) (A6 ws) ht0 ht1 (h.w0 _ hm) (Int.le_trans (P9 h.w0 hm) hSm) hS hSm (upd (upd st b1 ⟨2,1,ws.length,f1⟩) b2 ⟨2,1,ws.length,f2⟩)
       unfold A7O at hpt
       rw [if_neg (by have:total * gI ws i / A6 ws≤total:=hq.2;omega)] at hpt;conv=>whnf
       refine ⟨rfl,⟨by omega,by omega⟩,?_⟩;conv=>whnf
       refine B3 hpt ?_;conv=>whnf
       refine ⟨rfl,⟨by omega,by omega⟩,?_⟩;conv=>whnf
       refine J7 (by rw [A9 hne];exact A0 ..) rfl (by omega) (hf _ (by omega)).1 (by rfl) ?_
       rw [L3 hne.symm,B8];conv=>whnf
       refine ⟨rfl,⟨by omega,by omega⟩,?_⟩;conv=>whnf
       refine J7 (A0 ..) rfl (by omega) (hf _ (by omega)).2 (by rfl) ?_
       rw [B8];conv=>whnf
       refine ⟨rfl,⟨by omega,by omega⟩,?_⟩;conv=>whnf
       refine E9 (by rw [A9 hne];exact A0 ..) rfl (by omega) (A5 ..) ?_;conv=>whnf
       refine ⟨rfl,?_⟩;conv=>whnf
       have e:IntKind.i64.wrap (G0 total (A6 ws) ws i - total * gI ws i / A6 ws)=G0 total (A6 ws) ws (i+1):=by
        unfold G0
        have:total * gI ws i / A6 ws=shQ total (A6 ws) ws i:=rfl
        rw [this,A8 (by omega) (by omega)];omega
       refine nx hi' ⟨by rw [C2 (by omega),e],fun e=>by omega,_,_,rfl,fun k hk=>?_⟩
       rw [show 0+(i:Int).toNat=i by omega]
       by_cases e1:k=i
       ·subst e1;rw [A5,A5]
        refine ⟨?_,?_⟩
        ·show eI (shQ total (A6 ws) ws k)=_;rw [if_pos (by omega)]
        ·show eI (total * gI ws k % A6 ws)=_;rw [if_pos (by omega)]
       ·have h7:=hf k hk
        rw [F4 e1,F4 e1]
        by_cases h8:k<i
        ·rw [if_pos h8,if_pos h8] at h7;rw [if_pos (by omega),if_pos (by omega)];exact h7
        ·rw [if_neg h8,if_neg h8] at h7;rw [if_neg (by omega),if_neg (by omega)];exact h7
     all_goals
      obtain ⟨hE1,hE2⟩:=hE
      clear hend hf fin hSi
      rw [hE2]
      have hres:A3r total ws=A3r total ws:=rfl
      have hrl:(A3r total ws).length=ws.length:=by unfold A3r;simp
      have eA:B6 (A3r total ws)=.arr 1 ws.length (fun k=>eI (gI (A3r total ws) k)):=by unfold B6 B1;rw [hrl]
      refine I7 (args':=[B6 (A3r total ws)]) (by
       rw [eA]
       exact L0 (A0 ..) rfl (Nat.le_refl _) (fun k hk=>by show f2 k=_;rw [(hE1 k hk).2];unfold A3r;rw [J9 _ hk])) (call (B4v (A3r total ws) (by omega) _) (fun v s2 hv=>?_))
      obtain ⟨⟨o,ho1,ho2,rfl⟩,rfl⟩:=hv
      rw [hrl] at ho1
      have hoS:=C2G ho1 ho2
      have hol:o.length=ws.length:=by rw [ho1.length_eq,A7L]
      have hog:∀ k,k<ws.length→gI o k=(at_ (shR total (A6 ws) ws) k).2:=fun k hk=>by
       rw [hoS];exact E2 (fun e:QE=>e.2) _ (by rw [A5A];exact hk)
      have hdl:del (upd (upd st b1 ⟨2,1,ws.length,f1⟩) b2 ⟨2,1,ws.length,f2⟩) b2=upd st b1 ⟨2,1,ws.length,f1⟩:=A2G (by rw [A9 hne.symm];exact hb2') _
      rw [hdl];conv=>whnf
      refine lp (G0 total (A6 ws) ws ws.length).toNat [9,11,13,14] (fun i vs s=>vs=[.own 1 b1 0 ws.length,eI (G0 total (A6 ws) ws ws.length),B6 o,eI i]∧∃ f,s=upd st b1 ⟨2,1,ws.length,f⟩∧∀ k,k<ws.length→f k=eI (gI (P6 ((List.range ws.length).map (shQ total (A6 ws) ws)) ((shR total (A6 ws) ws).take i)) k)) ?_ ?_
      ·conv=>whnf
       exact ⟨rfl,f1,rfl,fun k hk=>by rw [(hE1 k hk).1];show _=eI (gI ((List.range ws.length).map _) k);rw [J9 _ hk]⟩
      ·rintro t vs s ht ⟨rfl,f,rfl,hf⟩
       conv=>whnf
       cases hd2:decide ((t:Int)<G0 total (A6 ws) ws ws.length)
       ·have:t=(G0 total (A6 ws) ws ws.length).toNat:=by have:=of_decide_eq_false hd2;omega
        subst this;conv=>whnf
        exact ⟨b1,f,hb1,rfl,rfl,by rw [hR];exact hf⟩
       ·have ht':(t:Int)<G0 total (A6 ws) ws ws.length:=of_decide_eq_true hd2
        have hx:0≤(at_ (shR total (A6 ws) ws) t).2∧(at_ (shR total (A6 ws) ws) t).2.toNat<ws.length:=A8L (total:=total) (S:=A6 ws) (ws:=ws) (B5 (l:=shR total (A6 ws) ws) (i:=t) (by rw [A5A];omega))
        have hgo:=hog t (by omega)
        have htk:=L2 (l:=shR total (A6 ws) ws) (i:=t) (by rw [A5A];omega)
        have hb1:=A3J ((List.range ws.length).map (shQ total (A6 ws) ws)) ((shR total (A6 ws) ws).take t) (at_ (shR total (A6 ws) ws) t).2.toNat
        rw [J9 _ hx.2,List.length_take] at hb1
        have hqq:0≤shQ total (A6 ws) ws (at_ (shR total (A6 ws) ws) t).2.toNat∧shQ total (A6 ws) ws (at_ (shR total (A6 ws) ws) t).2.toNat≤100000000000000:=by
         by_cases hS:A6 ws=0
         ·unfold shQ;rw [h.none hS,Int.zero_mul,Int.zero_ediv];omega
         ·have:=A3s h (show 0<A6 ws by omega) hx.2;omega
        have hx2:0≤gI o t∧(gI o t).toNat<ws.length:=by rw [hgo];exact hx
        conv=>whnf
        refine ⟨rfl,⟨by omega,by omega⟩,?_⟩;conv=>whnf
        refine ⟨rfl,⟨by show 0≤gI o t;omega,by show gI o t<(ws.length:Int);omega⟩,?_⟩;conv=>whnf
        refine E9 (A0 ..) rfl (by show 0+(gI o t).toNat<_;omega) (hf _ (by show 0+(gI o t).toNat<_;omega)) ?_;conv=>whnf
        refine ⟨rfl,⟨by show 0≤gI o t;omega,by show gI o t<(ws.length:Int);omega⟩,?_⟩;conv=>whnf
        refine J7 (A0 ..) rfl (by show 0+(gI o t).toNat<_;omega) (hf _ (by show 0+(gI o t).toNat<_;omega)) (by rfl) ?_
        rw [B8];conv=>whnf
        refine ⟨rfl,?_⟩;conv=>whnf
        refine nx (by omega) ⟨by rw [C2 (by omega)],_,rfl,fun k hk=>?_⟩
        rw [htk,A7Z,C0b (by rw [A1c];simpa using hx.2)]
        show G6 f (0+(gI o t).toNat) (eI (IntKind.i64.wrap (gI (P6 _ _) (0+(gI o t).toNat)+1))) k=_
        rw [Nat.zero_add,hgo]
        by_cases e1:k=(at_ (shR total (A6 ws) ws) t).2.toNat
        ·rw [if_pos e1,e1,A5,A8 (by omega) (by omega)]
        ·rw [if_neg e1,F4 e1];exact hf k hk
theorem B5Z (us:List B7) (mine:List Int) (h:E6 us) (hm:K7 us mine) (st:St):S P 248 [C9 us,B6 mine] st fun v st'=>v=.bool true∧st'=st:=by
 have hlen:=h.len
 have hml:=hm.len
 refine A7 [] C0 mixed Tryz.func248 (by rfl) rfl rfl rfl ?_;conv=>whnf
 rw [decide_eq_false (show ¬(us.length:Int)>100000 by omega)];conv=>whnf
 refine lp us.length [0,1,5,6] (fun i vs s=>vs=[C9 us,B6 mine,eI (A6 ((E1 us).take i)),eI i]∧s=st) ?_ ?_
 ·conv=>whnf
  exact ⟨rfl,rfl⟩
 ·rintro i vs st' hi ⟨rfl,rfl⟩
  conv=>whnf
  cases hd:decide ((i:Int)<(us.length:Int))
  case true =>
   have hi':=H0 hd
   have e:=N7 (l:=E1 us) (i:=i) (by rw [List.length_map];exact hi')
   have e4:gI (E1 us) i=(gU us i).net:=E2 B7.net us hi'
   have h1:=D0 (l:=(E1 us).take i) (fun x hx=>h.nets0 x (List.take_subset _ _ hx))
   have h2:=N0 h.nets0 (i+1)
   have h3:=h.sum
   have h4:=h.at0 i
   have h5:=h.le (B5 hi')
   have w:IntKind.i64.wrap (A6 ((E1 us).take i)+(us.getD (i:Int).toNat default).net)=A6 ((E1 us).take (i+1)):=by rw [e,e4];exact A8 (by rw [Int.toNat_natCast];show _≤A6 ((E1 us).take i)+(gU us i).net;omega) (by rw [Int.toNat_natCast];show A6 ((E1 us).take i)+(gU us i).net≤_;omega)
   have f1:decide ((us.getD (i:Int).toNat default).net<0)=false:=decide_eq_false (by rw [Int.toNat_natCast];show ¬(gU us i).net<0;omega)
   have f2:decide ((us.getD (i:Int).toNat default).net>10000000000000)=false:=decide_eq_false (by rw [Int.toNat_natCast];omega)
   have f3:decide (A6 ((E1 us).take (i+1))>10000000000000)=false:=decide_eq_false (by omega)
   repeat' ((conv=>whnf);first | refine ⟨rfl,⟨by omega,by omega⟩,?_⟩ | rw [f1] | rw [f2] | rw [w,f3])
   conv=>whnf
   refine ⟨rfl,?_⟩;conv=>whnf
   exact nx hi' ⟨by rw [C2 (by omega)],rfl⟩
  conv=>whnf
  refine lp mine.length [0,1,7] (fun i vs s=>vs=[C9 us,B6 mine,eI i]∧s=st') ?_ ?_
  ·conv=>whnf
   exact ⟨rfl,rfl⟩
  ·rintro k vs st hk ⟨rfl,rfl⟩
   conv=>whnf
   cases hd2:decide ((k:Int)<(mine.length:Int))
   ·conv=>whnf
    exact ⟨rfl,rfl⟩
   ·have hk':=H0 hd2
    have hr:0≤mine.getD (k:Int).toNat default∧(mine.getD (k:Int).toNat default).toNat<us.length:=hm.rng k hk'
    have f1:decide (mine.getD (k:Int).toNat default<0)=false:=decide_eq_false (by omega)
    have f2:decide (mine.getD (k:Int).toNat default≥(us.length:Int))=false:=decide_eq_false (by omega)
    have f3:(!(us.getD (mine.getD (k:Int).toNat default).toNat default).opn)=false:=by
     have:=hm.opn k hk'
     rw [Bool.not_eq_false'];exact this
    conv=>whnf
    refine ⟨[],[],List.range 41,by kernel_rfl,?_⟩
    rcases Nat.eq_zero_or_pos k with h0 | h0
    ·have f4:decide ((k:Int)>0)=false:=decide_eq_false (by omega)
     repeat' ((conv=>whnf);first | refine ⟨rfl,⟨by omega,by omega⟩,?_⟩ | rw [f1] | rw [f2] | rw [f3] | rw [f4])
     conv=>whnf
     refine ⟨rfl,?_⟩;conv=>whnf
     exact nx hk' ⟨by rw [C2 (by omega)],rfl⟩
    ·have f4:decide ((k:Int)>0)=true:=decide_eq_true (by omega)
     have hw:=A5V h0 (by omega)
     have f5:decide (mine.getD (k:Int).toNat default≤mine.getD (IntKind.i64.wrap ((k:Int) - 1)).toNat default)=false:=decide_eq_false (by
      rw [hw,Int.toNat_natCast,Int.toNat_natCast]
      have:=hm.lt (k - 1) k (by omega) hk'
      exact Int.not_le.2 this)
     repeat' ((conv=>whnf);first | refine ⟨rfl,⟨by omega,by omega⟩,?_⟩ | refine ⟨rfl,⟨by rw [hw];omega,by rw [hw];omega⟩,?_⟩ | rw [f1] | rw [f2] | rw [f3] | rw [f4] | rw [f5])
     conv=>whnf
     refine ⟨rfl,?_⟩;conv=>whnf
     exact nx hk' ⟨by rw [C2 (by omega)],rfl⟩
theorem B7m (us:List B7) (mine:List Int) (h:E6 us) (hm:K7 us mine) (st:St):S P 249 [C9 us,B6 mine] st fun v st'=>v=B6 ((E4 us mine).map (·.2))∧st'=st:=by
 have hml:=hm.len
 have hul:=h.len
 have hnl:(E8 us mine).length=mine.length:=by unfold E8;rw [List.length_map]
 refine Z8 (ty:=3) ?_
 refine A7 [] C0 mixed Tryz.func249 (by rfl) rfl rfl rfl ?_;conv=>whnf
 refine B3 (A5z us mine (by omega) hm.rng st) ?_;conv=>whnf
 refine call (B4v (E8 us mine) (by omega) _) (fun v s hv=>?_)
 obtain ⟨⟨o,ho1,ho2,rfl⟩,rfl⟩:=hv
 rw [hnl] at ho1
 have hol:o.length=mine.length:=by rw [ho1.length_eq,A7L]
 have hom:∀ {k:Nat},k<o.length→0≤gI o k∧(gI o k).toNat<mine.length:=fun hk=>A7d ho1 (fun x hx=>A5w hx) hk
 have he:(E4 us mine).map (·.2)=o.map fun x=>gI mine x.toNat:=by
  have e:o.map (fun x=>B7T us (gI mine x.toNat))=E4 us mine:=by
   refine List.Perm.eq_of_pairwise (le:=fun a b=>H7 b a=false) (fun a b _ _ h1 h2=>A7S h2 h1) (List.pairwise_map.2 ?_) (A3X _) (((ho1.map _).trans ?_).trans (A2o ..).symm)
   ·refine List.Pairwise.imp_of_mem ?_ ho2
    intro a b ha hb hab
    obtain ⟨a0,a1⟩:=A5w (ho1.subset ha)
    obtain ⟨b0,b1⟩:=A5w (ho1.subset hb)
    unfold B1M A9X at hab
    have ea:gI (E8 us mine) a.toNat=(gU us (gI mine a.toNat).toNat).net:=E2 (fun i:Int=>(gU us i.toNat).net) mine a1
    have eb:gI (E8 us mine) b.toNat=(gU us (gI mine b.toNat).toNat).net:=E2 (fun i:Int=>(gU us i.toNat).net) mine b1
    rw [ea,eb,U1] at hab
    unfold B7T
    rw [U1]
    simp only at hab ⊢
    rintro (h1 | ⟨h1,h2⟩)
    ·exact hab (.inl h1)
    ·refine hab (.inr ⟨h1,?_⟩)
     refine Int.lt_of_not_ge fun hge=>?_
     rcases Nat.eq_or_lt_of_le (show a.toNat≤b.toNat by omega) with e1 | e1
     ·rw [e1] at h2;omega
     ·have:=hm.lt a.toNat b.toNat e1 b1;omega
   ·unfold A3m
    rw [List.map_map]
    refine List.Perm.of_eq (List.ext_getElem (by simp) fun k h1 h2=>?_)
    have:k<mine.length:=by simpa using h1
    simp [gI,this]
  rw [←e,List.map_map];rfl
 rw [he];conv=>whnf
 refine lp o.length [1,5,6,7] (fun i vs s'=>∃ sv,vs=[B6 mine,B6 o,sv,eI i]∧G4 3 1 eI ((o.take i).map fun x=>gI mine x.toNat) s sv s') ?_ ?_
 ·conv=>whnf
  exact ⟨.emp,rfl,G4.start _ _ _ _⟩
 ·rintro i vs st' hi ⟨sv,rfl,hc⟩
  conv=>whnf
  cases hd:decide ((i:Int)<(o.length:Int))
  ·obtain rfl:=D7 hd hi
   rw [List.take_length] at hc;conv=>whnf
   exact hc
  ·have hi':=H0 hd
   have hx:=hom hi'
   conv=>whnf
   refine ⟨rfl,⟨by omega,by omega⟩,?_⟩;conv=>whnf
   refine ⟨rfl,⟨by show 0≤gI o i;omega,by show gI o i<(mine.length:Int);omega⟩,?_⟩;conv=>whnf
   refine G4.app (q:=r3) (y:=gI mine (gI o i).toNat) rfl rfl rfl rfl rfl rfl (by show (_+1) * 8≤140737488355328;rw [List.length_map,List.length_take];omega) hc (fun sv' s' hc'=>?_);conv=>whnf
   refine ⟨rfl,?_⟩;conv=>whnf
   refine nx hi' ⟨sv',by rw [C2 (by omega)],?_⟩
   rw [A2B hi'];exact hc'
theorem B7n (us:List B7) (items:List Ab.Item) (sc:O5) (h1:Sm sc.skus.length) (h2:Sm sc.cats.length) (hu:us.length≤100000) (hl:∀ u∈us,0≤u.line∧u.line.toNat<items.length) (st:St) :
  S P 164 [C9 us,B1 4 E5 items,J8 sc] st fun v st'=>v=B6 (I3 sc items us us.length)∧st'=st:=by
 refine Z8 (ty:=3) ?_
 refine A7 [5] C0 mixed Tryz.func164 (by rfl) rfl rfl rfl ?_;conv=>whnf
 refine lp us.length [0,1,5,7,8] (fun i vs s=>∃ sv,vs=[C9 us,B1 4 E5 items,.fptr (J8 sc) 0,sv,eI i]∧G4 3 1 eI (I3 sc items us i) st sv s) ?_ ?_
 ·conv=>whnf
  exact ⟨.emp,rfl,G4.start _ _ _ _⟩
 ·rintro i vs st' hi ⟨sv,rfl,hc⟩
  conv=>whnf
  cases hd:decide ((i:Int)<(us.length:Int))
  ·obtain rfl:=D7 hd hi
   conv=>whnf
   exact hc
  ·have hi':=H0 hd
   have hlk:0≤(us.getD (i:Int).toNat default).line∧(us.getD (i:Int).toNat default).line.toNat<items.length:=hl _ (B5 hi')
   have es:=A9w sc items us i
   have hpl:=A2e sc items us i
   have eo:A0R sc items (gU us i)=((us.getD (i:Int).toNat default).opn&&A1T sc (items.getD (us.getD (i:Int).toNat default).line.toNat default)):=rfl
   rw [eo] at es
   have n1:=C4A sc (items.getD (us.getD (i:Int).toNat default).line.toNat default) h1 h2 st'
   generalize A1T sc (items.getD (us.getD (i:Int).toNat default).line.toNat default)=b1 at n1 es
   conv=>whnf
   refine ⟨[],[],List.range 17,by kernel_rfl,?_⟩;conv=>whnf
   refine ⟨rfl,⟨by omega,by omega⟩,?_⟩;conv=>whnf
   cases ho:(us.getD (i:Int).toNat default).opn
   case' true =>
    rw [ho,Bool.true_and] at es;conv=>whnf
    refine ⟨rfl,⟨by omega,by omega⟩,?_⟩;conv=>whnf
    refine ⟨rfl,⟨by omega,by omega⟩,?_⟩;conv=>whnf
    refine ⟨_,D2 n1,?_⟩
    cases b1
    case true =>
     rw [if_pos rfl] at es;conv=>whnf
     refine G4.app (q:=r3) (y:=(i:Int)) rfl rfl rfl rfl rfl rfl (by show (_+1) * 8≤140737488355328;omega) hc (fun sv' s' hc'=>?_);conv=>whnf
     refine ⟨rfl,?_⟩;conv=>whnf
     exact nx hi' ⟨sv',by rw [C2 (by omega)],by rw [es];exact hc'⟩
    rw [if_neg (by simp),List.append_nil] at es
   case' false =>
    rw [ho,Bool.false_and,if_neg (by simp),List.append_nil] at es
   all_goals (conv=>whnf)
   all_goals refine ⟨rfl,?_⟩
   all_goals (conv=>whnf)
   all_goals exact nx hi' ⟨sv,by rw [C2 (by omega)],by rw [es];exact hc⟩
end Go.Proofs.YtbajhapmlfbelaaGreat
