/- Part 19 of the proof: contracts of the functions that the law reaches -/
import Derived.Test.YtbajhapmlfbelaaGreatDe18
set_option maxRecDepth 100000
set_option linter.unusedVariables false
set_option linter.unusedSimpArgs false
namespace Go.Proofs.YtbajhapmlfbelaaGreat
open Go Go.Ab
attribute [local irreducible] upd del
abbrev Big:Nat:=9223372036854775807
def Q6 (lo hi x:Int):Bool:=decide (x≥lo)&&decide (x≤hi)
def J1 {α : Type} [Inhabited α] (l:List α) (p:Nat→α→Bool):Bool:=(List.range l.length).all fun k=>p k (l.getD k default)
theorem J2 {α : Type} [Inhabited α] {l:List α} {p:Nat→α→Bool} (h:∀ k,k<l.length→p k (l.getD k default)=true):J1 l p=true:=A5q h
theorem T3 {α : Type} [Inhabited α] {l:List α} {p:Nat→α→Bool} {k:Nat} (hk:k<l.length) (h:p k (l.getD k default)=false):J1 l p=false:=A3n hk h
theorem L9 {i:Nat} {q:Nat→Prop} (h:∀ k,k<i→q k) (hi:q i):∀ k,k<i+1→q k:=fun k hk=>by
 rcases Nat.lt_succ_iff_lt_or_eq.1 hk with h' | h'
 ·exact h k h'
 ·rw [h'];exact hi
theorem B2q {α : Type} [Inhabited α] (g : α→E0) (l:List α) (st:St):B4 [.arr 1 l.length (fun k=>eS (g (l.getD k default)))] st [D6 (l.map g)] st:=by
 have e:D6 (l.map g)=.arr 1 l.length (fun k=>eS ((l.map g).getD k default)):=by unfold D6 B1;rw [List.length_map]
 rw [e]
 exact B4.arr fun i hi=>by rw [E2 g l hi]
theorem C5g (x:Int) (st:St):S P 217 [eI x] st fun v st'=>v=.bool (Q6 0 100000 x)∧st'=st:=by
 refine A7 [] C0 mixed Tryz.func217 (by rfl) rfl rfl rfl ?_
 repeat' ((conv=>whnf);first  | (refine C4 (fun h=>?_) (fun h=>?_)<;>rw [h]))
 all_goals (conv=>whnf)
 all_goals (refine ⟨?_,rfl⟩;show AV.bool _=AV.bool _;congr 1)
 all_goals (simp only [Q6, *,Bool.true_and,Bool.false_and,Bool.and_true,Bool.and_false,Bool.or_true,Bool.or_false,Bool.true_or,Bool.false_or,Bool.not_true,Bool.not_false,Bool.not_not];try rfl)
theorem B2N (x:Int) (st:St):S P 258 [eI x] st fun v st'=>v=.bool (Q6 0 10000 x)∧st'=st:=by
 refine A7 [] C0 mixed Tryz.func258 (by rfl) rfl rfl rfl ?_
 repeat' ((conv=>whnf);first  | (refine C4 (fun h=>?_) (fun h=>?_)<;>rw [h]))
 all_goals (conv=>whnf)
 all_goals (refine ⟨?_,rfl⟩;show AV.bool _=AV.bool _;congr 1)
 all_goals (simp only [Q6, *,Bool.true_and,Bool.false_and,Bool.and_true,Bool.and_false,Bool.or_true,Bool.or_false,Bool.true_or,Bool.false_or,Bool.not_true,Bool.not_false,Bool.not_not];try rfl)
theorem C4l (x:Int) (st:St):S P 222 [eI x] st fun v st'=>v=.bool (Q6 1 9 x)∧st'=st:=by
 refine A7 [] C0 mixed Tryz.func222 (by rfl) rfl rfl rfl ?_
 repeat' ((conv=>whnf);first  | (refine C4 (fun h=>?_) (fun h=>?_)<;>rw [h]))
 all_goals (conv=>whnf)
 all_goals (refine ⟨?_,rfl⟩;show AV.bool _=AV.bool _;congr 1)
 all_goals (simp only [Q6, *,Bool.true_and,Bool.false_and,Bool.and_true,Bool.and_false,Bool.or_true,Bool.or_false,Bool.true_or,Bool.false_or,Bool.not_true,Bool.not_false,Bool.not_not];try rfl)
def lineC (x:F5):Bool:=Q6 0 100000 x.qty&&Q6 0 1000000000 x.price
theorem C4m (x:F5) (st:St):S P 275 [F7 x] st fun v st'=>v=.bool (lineC x)∧st'=st:=by
 refine A7 [1] C0 mixed Tryz.func275 (by rfl) rfl rfl rfl ?_
 repeat' ((conv=>whnf);first  | (refine C4 (fun h=>?_) (fun h=>?_)<;>rw [h]))
 all_goals (conv=>whnf)
 all_goals (refine ⟨?_,rfl⟩;show AV.bool _=AV.bool _;congr 1)
 all_goals (simp only [lineC,Q6, *,Bool.true_and,Bool.false_and,Bool.and_true,Bool.and_false,Bool.or_true,Bool.or_false,Bool.true_or,Bool.false_or,Bool.not_true,Bool.not_false,Bool.not_not];try rfl)
def A8m (x:Ab.Ship):Bool:=Q6 0 1000000000 x.fee&&Q6 0 10000000000000 x.free
theorem C4G (x:Ab.Ship) (st:St):S P 177 [C3A x] st fun v st'=>v=.bool (A8m x)∧st'=st:=by
 refine A7 [1] C0 mixed Tryz.func177 (by rfl) rfl rfl rfl ?_
 repeat' ((conv=>whnf);first  | (refine C4 (fun h=>?_) (fun h=>?_)<;>rw [h]))
 all_goals (conv=>whnf)
 all_goals (refine ⟨?_,rfl⟩;show AV.bool _=AV.bool _;congr 1)
 all_goals (simp only [A8m,Q6, *,Bool.true_and,Bool.false_and,Bool.and_true,Bool.and_false,Bool.or_true,Bool.or_false,Bool.true_or,Bool.false_or,Bool.not_true,Bool.not_false,Bool.not_not];try rfl)
abbrev B3M (p:B2):AV:=.agg (cellsOf (B9 p))
def A7c (p:B2):Bool:=Q6 1 10000 p.rate
def A7a (p:B2):Bool:=Q6 1 1000000000 p.amount
def A7b (p:B2):Bool:=A7c p&&(Q6 1 100 p.buy&&Q6 1 100 p.get)
def A0i (x:Q0):Bool:=Y3 x.scope&&!(decide (x.count<1)||decide (x.count>100))
theorem B2y (p:B2) (st:St):S P 309 [B3M p] st fun v st'=>v=.bool (A7c p)∧st'=st:=by
 refine A7 [1] C0 mixed Tryz.func309 (by rfl) rfl rfl rfl ?_
 repeat' ((conv=>whnf);first  | (refine C4 (fun h=>?_) (fun h=>?_)<;>rw [h]))
 all_goals (conv=>whnf)
 all_goals (refine ⟨?_,rfl⟩;show AV.bool _=AV.bool _;congr 1)
 all_goals (simp only [A7c,Q6, *,Bool.true_and,Bool.false_and,Bool.and_true,Bool.and_false,Bool.or_true,Bool.or_false,Bool.true_or,Bool.false_or,Bool.not_true,Bool.not_false,Bool.not_not];try rfl)
theorem B8m (p:B2) (st:St):S P 310 [B3M p] st fun v st'=>v=.bool (A7a p)∧st'=st:=by
 refine A7 [1] C0 mixed Tryz.func310 (by rfl) rfl rfl rfl ?_
 repeat' ((conv=>whnf);first  | (refine C4 (fun h=>?_) (fun h=>?_)<;>rw [h]))
 all_goals (conv=>whnf)
 all_goals (refine ⟨?_,rfl⟩;show AV.bool _=AV.bool _;congr 1)
 all_goals (simp only [A7a,Q6, *,Bool.true_and,Bool.false_and,Bool.and_true,Bool.and_false,Bool.or_true,Bool.or_false,Bool.true_or,Bool.false_or,Bool.not_true,Bool.not_false,Bool.not_not];try rfl)
theorem B8o (p:B2) (st:St):S P 311 [B3M p] st fun v st'=>v=.bool (A7b p)∧st'=st:=by
 refine A7 [1] C0 mixed Tryz.func311 (by rfl) rfl rfl rfl ?_
 repeat' ((conv=>whnf);first | refine B3 (B2y p st) ?_ | (refine C4 (fun h=>?_) (fun h=>?_)<;>rw [h]))
 all_goals (conv=>whnf)
 all_goals (refine ⟨?_,rfl⟩;show AV.bool _=AV.bool _;congr 1)
 all_goals (simp only [A7b,Q6, *,Bool.true_and,Bool.false_and,Bool.and_true,Bool.and_false,Bool.or_true,Bool.or_false,Bool.true_or,Bool.false_or,Bool.not_true,Bool.not_false,Bool.not_not];try rfl)
def K1 (s:E0):Bool:=s.toList==(⟨#[]⟩:E0).toList
def A1G (s:E0):Bool:=K1 s||F1 s
theorem C2C (s:E0) (st:St):S P 340 [eS s] st fun v st'=>v=.bool (A1G s)∧st'=st:=by
 refine A7 [] C0 mixed Tryz.func340 (by rfl) rfl rfl rfl ?_
 repeat' ((conv=>whnf);first | refine B3 (A6h s st) ?_ | (refine C4 (fun h=>?_) (fun h=>?_)<;>rw [h]))
 all_goals (conv=>whnf)
 all_goals (refine ⟨?_,rfl⟩;show AV.bool _=AV.bool _;congr 1)
 all_goals (simp only [A1G,K1, *,Bool.true_and,Bool.false_and,Bool.and_true,Bool.and_false,Bool.or_true,Bool.or_false,Bool.true_or,Bool.false_or,Bool.not_true,Bool.not_false,Bool.not_not];try rfl)
theorem B8j (x:Q0) (h1:x.scope.skus.length≤Big) (h2:x.scope.cats.length≤Big) (st:St):S P 338 [O6 x] st fun v st'=>v=.bool (!A0i x)∧st'=st:=by
 refine A7 [1] C0 mixed Tryz.func338 (by rfl) rfl rfl rfl ?_
 repeat' ((conv=>whnf);first | refine B3 (B7p x.scope h1 h2 st) ?_ | (refine C4 (fun h=>?_) (fun h=>?_)<;>rw [h]))
 all_goals (conv=>whnf)
 all_goals (refine ⟨?_,rfl⟩;show AV.bool _=AV.bool _;congr 1)
 all_goals (simp only [A0i,Bool.not_eq_true',Bool.not_eq_false', *,Bool.true_and,Bool.false_and,Bool.and_true,Bool.and_false,Bool.or_true,Bool.or_false,Bool.true_or,Bool.false_or,Bool.not_true,Bool.not_false,Bool.not_not] at *;try simp only [*,Bool.true_and,Bool.false_and,Bool.not_true,Bool.not_false,Bool.true_or,Bool.false_or,Bool.not_not])
def B3o (l:List Q0):Prop:=l.length≤Big∧∀ x∈l,x.scope.skus.length≤Big∧x.scope.cats.length≤Big
def A3R (p:B2):Bool:=!(decide ((p.parts.length:Int)<1)||decide ((p.parts.length:Int)>3)||decide (p.amount<0)||decide (p.amount>10000000000000))&&!(p.parts.any fun x=>!A0i x)
theorem B8n (p:B2) (hp:B3o p.parts) (st:St):S P 312 [B3M p] st fun v st'=>v=.bool (A3R p)∧st'=st:=by
 refine A7 [1] C0 mixed Tryz.func312 (by rfl) rfl rfl rfl ?_
 repeat' ((conv=>whnf);first | refine B3 (B5U p.parts hp.1 _ [] (fun x=>!A0i x) st fun x hx=>B8j x (hp.2 x hx).1 (hp.2 x hx).2 st) ?_ | (refine C4 (fun h=>?_) (fun h=>?_)<;>rw [h]))
 all_goals (conv=>whnf)
 all_goals (refine ⟨?_,rfl⟩;show AV.bool _=AV.bool _;congr 1)
 all_goals (simp only [A3R, *,Bool.true_and,Bool.false_and,Bool.and_true,Bool.and_false,Bool.or_true,Bool.or_false,Bool.true_or,Bool.false_or,Bool.not_true,Bool.not_false,Bool.not_not];try rfl)
def A2Z (l:List Y8) (k:Nat) (x:Y8):Bool :=
 !(decide (x.least≤(if k=0 then -1 else (l.getD (k - 1) default).least))||decide (x.least>10000000000000)||decide (x.rate<0)||decide (x.rate>10000)||decide (x.amount<0)||decide (x.amount>10000000000000)||(x.rate==0&&x.amount==0))
def V0 (l:List Y8):Bool:=!(decide ((l.length:Int)<1)||decide ((l.length:Int)>6))&&J1 l (A2Z l)
theorem B7v (p:B2) (st:St):S P 313 [B3M p] st fun v st'=>v=.bool (V0 p.tiers)∧st'=st:=by
 refine A7 [1,5] C0 mixed Tryz.func313 (by rfl) rfl rfl rfl ?_
 repeat' ((conv=>whnf);first  | (refine C4 (fun h=>?_) (fun h=>?_)<;>rw [h]))
 all_goals (conv=>whnf)
 all_goals first
  | (refine ⟨?_,rfl⟩;show AV.bool _=AV.bool _;congr 1;simp only [V0, *,Bool.true_or,Bool.or_true,Bool.not_true,Bool.false_and];done)
  | skip
 generalize hl:p.tiers=l at *
 have hs:l.length≤6:=by simp only [decide_eq_true_eq,decide_eq_false_iff_not] at *;omega
 have ht:V0 l=J1 l (A2Z l):=by simp only [V0, *,Bool.or_false,Bool.not_false,Bool.true_and]
 refine ⟨[3,20,21,22],fun m vs st'=>∃ i:Nat,i≤l.length∧(∀ k,k<i→A2Z l k (l.getD k default)=true)∧m=l.length - i∧vs=[eI (if i=0 then -1 else (l.getD (i - 1) default).least),B1 3 L7 l,eI l.length,eI i]∧st'=st,?_,?_⟩
 ·conv=>whnf
  exact ⟨_,0,Nat.zero_le _,fun k hk=>absurd hk (by omega),rfl,rfl,rfl⟩
 ·rintro m vs st' ⟨i,hi,hok,rfl,rfl,rfl⟩
  conv=>whnf
  cases h:decide ((i:Int)<(l.length:Int))
  ·have:=of_decide_eq_false h
   conv=>whnf
   refine ⟨?_,rfl⟩
   rw [ht,J2 fun k hk=>hok k (by omega)];rfl
  ·have hi':i<l.length:=by have:=of_decide_eq_true h;omega
   conv=>whnf
   refine ⟨rfl,⟨by omega,by omega⟩,?_⟩
   have yes:A2Z l i (l.getD (i:Int).toNat default)=true→∀ k,k<i+1→A2Z l k (l.getD k default)=true:=fun h=>L9 hok h
   have no:A2Z l i (l.getD (i:Int).toNat default)=false→V0 l=false:=fun h=>by rw [ht];exact T3 hi' h
   unfold A2Z at yes no
   repeat' ((conv=>whnf);first  | (refine C4 (fun h=>?_) (fun h=>?_)<;>rw [h]))
   all_goals (conv=>whnf)
   all_goals first
    | (refine ⟨?_,rfl⟩;rw [no (by simp only [*,Bool.true_and,Bool.and_self,Bool.or_true,Bool.true_or,Bool.not_true])];rfl)
    | (refine ⟨rfl,?_⟩
       conv=>whnf
       exact ⟨l.length - (i+1),by omega,i+1,by omega,yes (by simp only [*,Bool.false_and,Bool.and_false,Bool.or_false,Bool.not_false]),rfl,by rw [C2 (by omega),if_neg (show ¬ i+1=0 by omega)];rfl,rfl⟩)
def A5R (p:B2):Bool:=F1 p.id&&Q6 0 1000 p.prio&&A1G p.group&&A1G p.code&&Y3 p.scope&&Q6 0 10000000000000 p.least
structure A6C (s:O5):Prop where
 skus:s.skus.length≤Big
 cats:s.cats.length≤Big
theorem C2H (p:B2) (hsc:A6C p.scope) (st:St):S P 314 [B3M p] st fun v st'=>v=.bool (A5R p)∧st'=st:=by
 refine A7 [1] C0 mixed Tryz.func314 (by rfl) rfl rfl rfl ?_
 repeat' ((conv=>whnf);first | refine B3 (A6h _ st) ?_ | refine B3 (C2C _ st) ?_ | refine B3 (B7p p.scope hsc.skus hsc.cats st) ?_ | (refine C4 (fun h=>?_) (fun h=>?_)<;>rw [h]))
 all_goals (conv=>whnf)
 all_goals (refine ⟨?_,rfl⟩;show AV.bool _=AV.bool _;congr 1)
 all_goals (simp only [A5R,Q6, *,Bool.true_and,Bool.false_and,Bool.and_true,Bool.and_false,Bool.or_true,Bool.or_false,Bool.true_or,Bool.false_or,Bool.not_true,Bool.not_false,Bool.not_not];try rfl)
def A4L (p:B2):Bool :=
 (((p.kind==1)||(p.kind==7)||(p.kind==3))||p.rate==0)&&((p.kind==2)||(p.kind==4)||p.amount==0)&&((p.kind==3)||(p.buy==0&&p.get==0))&&((p.kind==4)||p.parts.length==0)&&((p.kind==5)||(p.kind==6)||p.tiers.length==0)&&(((p.kind != 4)&&(p.kind != 7))||(p.scope.skus.length+p.scope.cats.length==0))&&((p.kind != 7)||!p.closes)
theorem A1U (n:Nat):((n:Int)==0)=(n==0):=by
 rw [Bool.eq_iff_iff,beq_iff_eq,beq_iff_eq];omega
set_option maxHeartbeats 4000000 in
theorem C0A (p:B2) (hk:1≤p.kind∧p.kind≤7) (hs1:p.scope.skus.length≤20) (hs2:p.scope.cats.length≤20) (st:St):S P 315 [B3M p] st fun v st'=>v=.bool (A4L p)∧st'=st:=by
 refine A7 [1] C0 mixed Tryz.func315 (by rfl) rfl rfl rfl ?_
 obtain ⟨id,kind,prio,group,code,closes,scope,least,rate,amount,buy,get,parts,tiers⟩:=p
 simp only at *
 have wl:IntKind.i64.wrap ((scope.skus.length:Int)+(scope.cats.length:Int))=((scope.skus.length+scope.cats.length:Nat):Int):=by rw [A8 (by omega) (by omega)];omega
 rcases (by omega:kind=1∨kind=2∨kind=3∨kind=4∨kind=5∨kind=6∨kind=7) with rfl | rfl | rfl | rfl | rfl | rfl | rfl
 all_goals repeat' ((conv=>whnf);first  | (refine C4 (fun h=>?_) (fun h=>?_)<;>rw [h]))
 all_goals (conv=>whnf)
 all_goals (refine ⟨?_,rfl⟩;show AV.bool _=AV.bool _;congr 1)
 all_goals (try rw [wl] at *)
 all_goals (simp only [A1U] at *;simp [A4L, *])
theorem D2 {P:Program} {f:FuncId} {args:List AV} {st:St} {v:AV} (h:S P f args st fun v' st'=>v'=v∧st'=st):A1B P f args st fun v' st'=>v'=v∧st'=st:=call h fun _ _ h=>h
structure O0 (p:B2):Prop where
 scope:A6C p.scope
 parts:B3o p.parts
def A4K (p:B2):Bool :=
 if p.kind=1 then A7c p else if p.kind=2 then A7a p else if p.kind=3 then A7b p else if p.kind=4 then A3R p else if p.kind=5 then V0 p.tiers else if p.kind=6 then V0 p.tiers else A7c p
def G2 (p:B2):Bool:=decide (p.kind≥1)&&decide (p.kind<8)&&A5R p&&A4L p&&A4K p
theorem B0f {s:O5} (h:Y3 s=true):s.skus.length≤20∧s.cats.length≤20:=by
 simp only [Y3,Bool.and_eq_true,decide_eq_true_eq] at h
 exact ⟨h.1.1,h.2.1⟩
theorem B1r {p:B2} (h:A5R p=true):p.scope.skus.length≤20∧p.scope.cats.length≤20:=by
 simp only [A5R,Bool.and_eq_true] at h
 exact B0f h.1.2
theorem A8J (p:B2) (hp:O0 p) (st:St):S P 254 [B9 p] st fun v st'=>v=.bool (G2 p)∧st'=st:=by
 refine A7 [1,3,4] C0 mixed Tryz.func254 (by rfl) rfl rfl rfl ?_;conv=>whnf
 refine ⟨[],[],[0,1,2,3,4,5,6,7,8,9,10,11,12,13,14,15,16,17,18,19,20,21,22,23,24],by kernel_rfl,?_⟩;conv=>whnf
 refine C4 (fun h1=>?_) (fun h1=>?_)<;>rw [h1]
 case refine_2 =>
  conv=>whnf
  refine ⟨?_,rfl⟩
  simp only [G2,h1,Bool.false_and];rfl
 conv=>whnf
 refine C4 (fun h2=>?_) (fun h2=>?_)<;>rw [h2]
 case refine_2 =>
  conv=>whnf
  refine ⟨?_,rfl⟩
  simp only [G2,h1,h2,Bool.false_and,Bool.and_false];rfl
 have hk:1≤p.kind∧p.kind≤7:=by simp only [decide_eq_true_eq] at h1 h2;omega
 conv=>whnf
 refine ⟨_,D2 (C2H p hp.scope st),?_⟩;conv=>whnf
 refine C4 (fun h3=>?_) (fun h3=>?_)
 case refine_2 =>
  rw [h3];conv=>whnf
  refine ⟨?_,rfl⟩
  simp only [G2,h3,Bool.false_and,Bool.and_false];rfl
 rw [h3]
 have hl:=B1r h3
 conv=>whnf
 refine ⟨_,D2 (C0A p hk hl.1 hl.2 st),?_⟩;conv=>whnf
 refine C4 (fun h4=>?_) (fun h4=>?_)
 case refine_2 =>
  rw [h4];conv=>whnf
  refine ⟨?_,rfl⟩
  simp only [G2,h4,Bool.false_and,Bool.and_false];rfl
 rw [h4]
 have hspec:G2 p=A4K p:=by simp only [G2,h1,h2,h3,h4,Bool.true_and]
 rw [hspec]
 suffices hcall:∀ f,f=(if p.kind=1 then 309 else if p.kind=2 then 310 else if p.kind=3 then 311 else if p.kind=4 then 312 else if p.kind=5 then 313 else if p.kind=6 then 313 else 309)→S P f [B3M p] st fun v st'=>v=.bool (A4K p)∧st'=st by
  clear hspec h1 h2 h3 h4 hl
  generalize A4K p=B at *
  clear hp
  obtain ⟨id,kind,prio,group,code,closes,scope,least,rate,amount,buy,get,parts,tiers⟩:=p
  simp only at hk hcall
  rcases (by omega:kind=1∨kind=2∨kind=3∨kind=4∨kind=5∨kind=6∨kind=7) with rfl | rfl | rfl | rfl | rfl | rfl | rfl
  all_goals (conv=>whnf)
  all_goals (refine ⟨⟨by dsimp only;omega,by dsimp only;omega⟩,?_⟩;conv=>whnf)
  all_goals (refine ⟨_,D2 (hcall _ rfl),?_⟩;conv=>whnf)
  all_goals exact ⟨rfl,rfl⟩
 rintro f rfl
 unfold A4K
 rcases (by omega:p.kind=1∨p.kind=2∨p.kind=3∨p.kind=4∨p.kind=5∨p.kind=6∨p.kind=7) with e | e | e | e | e | e | e<;>rw [e]
 ·exact B2y p st
 ·exact B8m p st
 ·exact B8o p st
 ·exact B8n p hp.parts st
 ·exact B7v p st
 ·exact B7v p st
 ·exact B2y p st
theorem B8h (s:E0) (st:St):S P 181 [eS s] st fun v st'=>v=.bool (!F1 s)∧st'=st:=by
 refine A7 [] C0 mixed Tryz.func181 (by rfl) rfl rfl rfl ?_;conv=>whnf
 refine B3 (A6h s st) ?_;conv=>whnf
 exact ⟨rfl,rfl⟩
def R9 (l:List E0):Bool:=decide ((l.length:Int)≤4)&&Y2 l&&!(l.any fun s=>!F1 s)
theorem B6P (l:List E0) (hl:l.length≤Big) (st:St):S P 96 [D6 l] st fun v st'=>v=.bool (R9 l)∧st'=st:=by
 refine A7 [] C0 mixed Tryz.func96 (by rfl) rfl rfl rfl ?_
 repeat' ((conv=>whnf);first | refine B3 (B0a l hl st) ?_ | refine B3 (B8M l hl _ [] (fun s=>!F1 s) st fun x _=>B8h x st) ?_ | (refine C4 (fun h=>?_) (fun h=>?_)<;>rw [h]))
 all_goals (conv=>whnf)
 all_goals (refine ⟨?_,rfl⟩;show AV.bool _=AV.bool _;congr 1)
 all_goals (simp only [R9, *,Bool.true_and,Bool.false_and,Bool.and_true,Bool.and_false];try rfl)
theorem C1c (p x:B2) (st:St):S P 256 [B9 x,.fptr (B9 p) 0] st fun v st'=>v=.bool (x.id.toList==p.id.toList)∧st'=st:=by
 refine A7 [2] C0 mixed Tryz.func256 (by rfl) rfl rfl rfl ?_;conv=>whnf
 exact ⟨rfl,rfl⟩
theorem B0h {α : Type} [Inhabited α] (e:Nat) (enc : α→AV) (l:List α) (i n:Nat) (f:Nat→AV) (hi:i≤l.length) (hn:n=i) (hf:∀ k,k<i→f k=enc (l.getD k default)) (st:St):B4 [.arr e n f] st [B1 e enc (l.take i)] st:=by
 subst hn
 have el:(l.take n).length=n:=by rw [List.length_take];omega
 have e2:B1 e enc (l.take n)=.arr e n (fun k=>enc ((l.take n).getD k default)):=by unfold B1;rw [el]
 rw [e2]
 refine B4.arr fun k hk=>?_
 rw [hf k hk]
 congr 1
 simp [List.getD_eq_getElem?_getD,List.getElem?_take_of_lt hk]
def T1 (l:List B2) (k:Nat) (p:B2):Bool:=G2 p&&!((l.take k).any fun x=>x.id.toList==p.id.toList)
def promosC (l:List B2):Bool:=decide ((l.length:Int)≤60)&&J1 l (T1 l)
theorem C0E (l:List B2) (hl:l.length≤Big) (hf:∀ p∈l,O0 p) (st:St):S P 175 [B1 15 B9 l] st fun v st'=>v=.bool (promosC l)∧st'=st:=by
 refine A7 [4] C0 mixed Tryz.func175 (by rfl) rfl rfl rfl ?_;conv=>whnf
 refine C4 (fun h=>?_) (fun h=>?_)<;>rw [h]<;>simp only [decide_eq_true_eq,decide_eq_false_iff_not] at h
 ·conv=>whnf
  refine ⟨?_,rfl⟩
  rw [show promosC l=false by unfold promosC;rw [decide_eq_false (by omega),Bool.false_and]];rfl
 have ht:promosC l=J1 l (T1 l):=by unfold promosC;rw [decide_eq_true (by omega),Bool.true_and]
 conv=>whnf
 refine ⟨[0,8,9,10],fun m vs st'=>∃ i:Nat,i≤l.length∧(∀ k,k<i→T1 l k (l.getD k default)=true)∧m=l.length - i∧vs=[B1 15 B9 l,B1 15 B9 l,eI l.length,eI i]∧st'=st,?_,?_⟩
 ·conv=>whnf
  exact ⟨_,0,Nat.zero_le _,fun k hk=>absurd hk (by omega),rfl,rfl,rfl⟩
 ·rintro m vs st' ⟨i,hi,hok,rfl,rfl,rfl⟩
  conv=>whnf
  cases h:decide ((i:Int)<(l.length:Int))
  ·have:=of_decide_eq_false h
   conv=>whnf
   refine ⟨?_,rfl⟩
   rw [ht,J2 fun k hk=>hok k (by omega)];rfl
  ·have hi':i<l.length:=by have:=of_decide_eq_true h;omega
   conv=>whnf
   refine ⟨rfl,⟨by omega,by omega⟩,?_⟩
   have yes:T1 l i (l.getD (i:Int).toNat default)=true→∀ k,k<i+1→T1 l k (l.getD k default)=true:=fun h=>L9 hok h
   have no:T1 l i (l.getD (i:Int).toNat default)=false→promosC l=false:=fun h=>by rw [ht];exact T3 hi' h
   have hmem:l.getD (i:Int).toNat default∈l:=by
    rw [Int.toNat_natCast,List.getD_eq_getElem?_getD,List.getElem?_eq_getElem hi'];exact List.getElem_mem hi'
   unfold T1 at yes no;conv=>whnf
   refine B3 (A8J (l.getD (i:Int).toNat default) (hf _ hmem) _) ?_;conv=>whnf
   refine C4 (fun h1=>?_) (fun h1=>?_)
   ·rw [h1];conv=>whnf
    refine ⟨?_,rfl⟩
    rw [no (by rw [show G2 (l.getD (i:Int).toNat default)=false by simpa using h1,Bool.false_and])];rfl
   ·rw [h1]
    have h1':G2 (l.getD (i:Int).toNat default)=true:=by simpa using h1
    conv=>whnf
    refine ⟨rfl,⟨by omega,by omega,by omega⟩,?_⟩;conv=>whnf
    refine I7 (B4.cons (B0h 15 B9 l i _ _ hi (by omega) (fun k hk=>by simp) _) (B4.keep _ _)) (B3 (B4s (l.take i) (by rw [List.length_take];omega) _ [.fptr (B9 (l.getD (i:Int).toNat default)) 0] (fun x=>x.id.toList==(l.getD (i:Int).toNat default).id.toList) _ fun x _=>C1c _ x _) ?_);conv=>whnf
    refine C4 (fun h2=>?_) (fun h2=>?_)
    ·rw [h2];conv=>whnf
     refine ⟨?_,rfl⟩
     rw [no (by rw [h2,Bool.not_true,Bool.and_false])];rfl
    ·rw [h2];conv=>whnf
     refine ⟨rfl,?_⟩;conv=>whnf
     exact ⟨l.length - (i+1),by omega,i+1,by omega,yes (by rw [h1',h2];rfl),rfl,by rw [C2 (by omega)],rfl⟩
def A3l (x:Ab.Item):Bool:=!(!F1 x.sku||!F1 x.cat||decide (x.price<0)||decide (x.price>1000000000))
def A0q (l:List Ab.Item):Bool:=!decide ((l.length:Int)>500)&&(J1 l (fun _ x=>A3l x)&&Y2 (l.map Ab.Item.sku))
theorem C2w (l:List Ab.Item) (st:St):S P 174 [B1 4 E5 l] st fun v st'=>v=.bool (A0q l)∧st'=st:=by
 refine A2E ?_
 refine A7 [5] C0 mixed Tryz.func174 (by rfl) rfl rfl rfl ?_;conv=>whnf
 refine C4 (fun h=>?_) (fun h=>?_)<;>rw [h]
 ·conv=>whnf
  refine ⟨?_,F3.refl _⟩
  rw [show A0q l=false by unfold A0q;rw [h];rfl];rfl
 have hs:l.length≤500:=by simp only [decide_eq_false_iff_not] at h;omega
 have ht:A0q l=(J1 l (fun _ x=>A3l x)&&Y2 (l.map Ab.Item.sku)):=by unfold A0q;rw [h,Bool.not_false,Bool.true_and]
 conv=>whnf
 refine ⟨[3,9,10,11],fun m vs st'=>∃ (i:Nat) (sv:AV),i≤l.length∧(∀ k,k<i→(fun (_:Nat) (x:Ab.Item)=>A3l x) k (l.getD k default)=true)∧m=l.length - i∧vs=[sv,B1 4 E5 l,eI l.length,eI i]∧H9 9 1 (fun k=>eS (Ab.Item.sku (l.getD k default))) st i sv st',?_,?_⟩
 ·conv=>whnf
  exact ⟨_,0,.emp,Nat.zero_le _,fun k hk=>absurd hk (by omega),rfl,rfl,H9.start _ _ _ _⟩
 ·rintro m vs st' ⟨i,sv,hi,hok,rfl,rfl,hc⟩
  conv=>whnf
  cases h:decide ((i:Int)<(l.length:Int))
  ·have:=of_decide_eq_false h
   obtain rfl:i=l.length:=by omega
   conv=>whnf
   refine I7 (hc.shift.trans (B2q Ab.Item.sku l st)) (B3 (B0a (l.map Ab.Item.sku) (by rw [List.length_map];omega) st) ?_);conv=>whnf
   refine ⟨?_,F3.refl _⟩
   rw [ht,J2 fun k hk=>hok k (by omega),Bool.true_and];rfl
  ·have hi':i<l.length:=by have:=of_decide_eq_true h;omega
   conv=>whnf
   refine ⟨rfl,⟨by omega,by omega⟩,?_⟩
   have yes:(fun (_:Nat) (x:Ab.Item)=>A3l x) i (l.getD (i:Int).toNat default)=true→∀ k,k<i+1→(fun (_:Nat) (x:Ab.Item)=>A3l x) k (l.getD k default)=true:=fun h=>L9 hok h
   have no:(fun (_:Nat) (x:Ab.Item)=>A3l x) i (l.getD (i:Int).toNat default)=false→A0q l=false:=fun h=>by rw [ht,T3 hi' h,Bool.false_and]
   have hmem:l.getD (i:Int).toNat default∈l:=by
    rw [Int.toNat_natCast,List.getD_eq_getElem?_getD,List.getElem?_eq_getElem hi'];exact List.getElem_mem hi'
   have hsup:=hc.sup
   simp only [A3l] at yes no
   repeat' ((conv=>whnf);first | refine B3 (A6h _ _) ?_ | (refine C4 (fun h=>?_) (fun h=>?_)<;>rw [h]))
   all_goals (conv=>whnf)
   all_goals first
    | (refine ⟨?_,hsup⟩;rw [no (by first | (simp only [*,Bool.true_and,Bool.and_self,Bool.or_true,Bool.true_or,Bool.not_true];done) | simpa using h)];rfl)
    | skip
   refine H9.app rfl rfl rfl rfl rfl ?_ (by show (i+1) * 16≤140737488355328;omega) hc (fun sv' st'' hc'=>?_)
   ·rfl
   conv=>whnf
   refine ⟨rfl,?_⟩;conv=>whnf
   exact ⟨l.length - (i+1),by omega,i+1,sv',by omega,yes (by first | (simp only [*,Bool.false_and,Bool.and_false,Bool.or_false,Bool.not_false];done) | simpa using h),rfl,by rw [C2 (by omega)],hc'⟩
def A4g (x:G8):Bool:=!(!F1 x.cat||!Q6 0 10000 x.rate)
def Z5 (z:U6):Bool:=!(!F1 z.name||!Q6 0 10000 z.rest||!Q6 0 10000 z.ship||decide ((z.rates.length:Int)>40))&&(J1 z.rates (fun _ x=>A4g x)&&Y2 (z.rates.map G8.cat))
theorem C4Z (z:U6) (st:St):S P 257 [S8 z] st fun v st'=>v=.bool (Z5 z)∧st'=st:=by
 refine A2E ?_
 refine A7 [1,5] C0 mixed Tryz.func257 (by rfl) rfl rfl rfl ?_
 repeat' ((conv=>whnf);first | refine B3 (A6h _ _) ?_ | refine B3 (B2N _ _) ?_ | (refine C4 (fun h=>?_) (fun h=>?_)<;>rw [h]))
 all_goals (conv=>whnf)
 all_goals first
  | (refine ⟨?_,F3.refl _⟩
     rw [show Z5 z=false by unfold Z5;simp only [*,Bool.true_or,Bool.or_true,Bool.not_true,Bool.false_and]]
     rfl)
  | skip
 have hs:z.rates.length≤40:=by simp only [decide_eq_false_iff_not] at h;omega
 have ht:Z5 z=(J1 z.rates (fun _ x=>A4g x)&&Y2 (z.rates.map G8.cat)):=by unfold Z5;simp only [*,Bool.or_false,Bool.not_false,Bool.true_and]
 refine ⟨[3,29,30,31],fun m vs st'=>∃ (i:Nat) (sv:AV),i≤z.rates.length∧(∀ k,k<i→(fun (_:Nat) (x:G8)=>A4g x) k (z.rates.getD k default)=true)∧m=z.rates.length - i∧vs=[sv,B1 2 A0f z.rates,eI z.rates.length,eI i]∧H9 9 1 (fun k=>eS (G8.cat (z.rates.getD k default))) st i sv st',?_,?_⟩
 ·conv=>whnf
  exact ⟨_,0,.emp,Nat.zero_le _,fun k hk=>absurd hk (by omega),rfl,rfl,H9.start _ _ _ _⟩
 ·rintro m vs st' ⟨i,sv,hi,hok,rfl,rfl,hc⟩
  conv=>whnf
  cases h:decide ((i:Int)<(z.rates.length:Int))
  ·have:=of_decide_eq_false h
   obtain rfl:i=z.rates.length:=by omega
   conv=>whnf
   refine I7 (hc.shift.trans (B2q G8.cat z.rates st)) (B3 (B0a (z.rates.map G8.cat) (by rw [List.length_map];omega) st) ?_);conv=>whnf
   refine ⟨?_,F3.refl _⟩
   rw [ht,J2 fun k hk=>hok k (by omega),Bool.true_and];rfl
  ·have hi':i<z.rates.length:=by have:=of_decide_eq_true h;omega
   conv=>whnf
   refine ⟨rfl,⟨by omega,by omega⟩,?_⟩
   have yes:(fun (_:Nat) (x:G8)=>A4g x) i (z.rates.getD (i:Int).toNat default)=true→∀ k,k<i+1→(fun (_:Nat) (x:G8)=>A4g x) k (z.rates.getD k default)=true:=fun h=>L9 hok h
   have no:(fun (_:Nat) (x:G8)=>A4g x) i (z.rates.getD (i:Int).toNat default)=false→Z5 z=false:=fun h=>by rw [ht,T3 hi' h,Bool.false_and]
   have hmem:z.rates.getD (i:Int).toNat default∈z.rates:=by
    rw [Int.toNat_natCast,List.getD_eq_getElem?_getD,List.getElem?_eq_getElem hi'];exact List.getElem_mem hi'
   have hsup:=hc.sup
   simp only [A4g] at yes no
   repeat' ((conv=>whnf);first | refine B3 (A6h _ _) ?_ | refine B3 (B2N _ _) ?_ | (refine C4 (fun h=>?_) (fun h=>?_)<;>rw [h]))
   all_goals (conv=>whnf)
   all_goals first
    | (refine ⟨?_,hsup⟩;rw [no (by first | (simp only [*,Bool.true_and,Bool.and_self,Bool.or_true,Bool.true_or,Bool.not_true];done) | simpa using h)];rfl)
    | skip
   refine H9.app rfl rfl rfl rfl rfl ?_ (by show (i+1) * 16≤140737488355328;omega) hc (fun sv' st'' hc'=>?_)
   ·rfl
   conv=>whnf
   refine ⟨rfl,?_⟩;conv=>whnf
   exact ⟨z.rates.length - (i+1),by omega,i+1,sv',by omega,yes (by first | (simp only [*,Bool.false_and,Bool.and_false,Bool.or_false,Bool.not_false];done) | simpa using h),rfl,by rw [C2 (by omega)],hc'⟩
def A6u (x:Tax):Bool:=!(decide (x.round<0)||decide (x.round>2)||decide ((x.zones.length:Int)>20))&&(J1 x.zones (fun _ z=>Z5 z)&&Y2 (x.zones.map U6.name))
theorem C6R (x:Tax) (st:St):S P 176 [B0I x] st fun v st'=>v=.bool (A6u x)∧st'=st:=by
 refine A2E ?_
 refine A7 [1,5] C0 mixed Tryz.func176 (by rfl) rfl rfl rfl ?_
 repeat' ((conv=>whnf);first  | (refine C4 (fun h=>?_) (fun h=>?_)<;>rw [h]))
 all_goals (conv=>whnf)
 all_goals first
  | (refine ⟨?_,F3.refl _⟩
     rw [show A6u x=false by unfold A6u;simp only [*,Bool.true_or,Bool.or_true,Bool.not_true,Bool.false_and]]
     rfl)
  | skip
 have hs:x.zones.length≤20:=by simp only [decide_eq_false_iff_not] at h;omega
 have ht:A6u x=(J1 x.zones (fun _ z=>Z5 z)&&Y2 (x.zones.map U6.name)):=by unfold A6u;simp only [*,Bool.or_false,Bool.not_false,Bool.true_and]
 refine ⟨[3,21,22,23],fun m vs st'=>∃ (i:Nat) (sv:AV),i≤x.zones.length∧(∀ k,k<i→(fun (_:Nat) (z:U6)=>Z5 z) k (x.zones.getD k default)=true)∧m=x.zones.length - i∧vs=[sv,B1 4 S8 x.zones,eI x.zones.length,eI i]∧H9 9 1 (fun k=>eS (U6.name (x.zones.getD k default))) st i sv st',?_,?_⟩
 ·conv=>whnf
  exact ⟨_,0,.emp,Nat.zero_le _,fun k hk=>absurd hk (by omega),rfl,rfl,H9.start _ _ _ _⟩
 ·rintro m vs st' ⟨i,sv,hi,hok,rfl,rfl,hc⟩
  conv=>whnf
  cases h:decide ((i:Int)<(x.zones.length:Int))
  ·have:=of_decide_eq_false h
   obtain rfl:i=x.zones.length:=by omega
   conv=>whnf
   refine I7 (hc.shift.trans (B2q U6.name x.zones st)) (B3 (B0a (x.zones.map U6.name) (by rw [List.length_map];omega) st) ?_);conv=>whnf
   refine ⟨?_,F3.refl _⟩
   rw [ht,J2 fun k hk=>hok k (by omega),Bool.true_and];rfl
  ·have hi':i<x.zones.length:=by have:=of_decide_eq_true h;omega
   conv=>whnf
   refine ⟨rfl,⟨by omega,by omega⟩,?_⟩
   have yes:(fun (_:Nat) (z:U6)=>Z5 z) i (x.zones.getD (i:Int).toNat default)=true→∀ k,k<i+1→(fun (_:Nat) (z:U6)=>Z5 z) k (x.zones.getD k default)=true:=fun h=>L9 hok h
   have no:(fun (_:Nat) (z:U6)=>Z5 z) i (x.zones.getD (i:Int).toNat default)=false→A6u x=false:=fun h=>by rw [ht,T3 hi' h,Bool.false_and]
   have hmem:x.zones.getD (i:Int).toNat default∈x.zones:=by
    rw [Int.toNat_natCast,List.getD_eq_getElem?_getD,List.getElem?_eq_getElem hi'];exact List.getElem_mem hi'
   have hsup:=hc.sup
   simp only [not_true] at yes no
   conv=>whnf
   refine B3 (C4Z (x.zones.getD (i:Int).toNat default) _) ?_;conv=>whnf
   refine C4 (fun h=>?_) (fun h=>?_)<;>rw [h]
   all_goals (conv=>whnf)
   all_goals first
    | (refine ⟨?_,hsup⟩;rw [no (by first | (simp only [*,Bool.true_and,Bool.and_self,Bool.or_true,Bool.true_or,Bool.not_true];done) | simpa using h)];rfl)
    | skip
   refine H9.app rfl rfl rfl rfl rfl ?_ (by show (i+1) * 16≤140737488355328;omega) hc (fun sv' st'' hc'=>?_)
   ·rfl
   conv=>whnf
   refine ⟨rfl,?_⟩;conv=>whnf
   exact ⟨x.zones.length - (i+1),by omega,i+1,sv',by omega,yes (by first | (simp only [*,Bool.false_and,Bool.and_false,Bool.or_false,Bool.not_false];done) | simpa using h),rfl,by rw [C2 (by omega)],hc'⟩
def A1F (l:List Int) (i:Nat) (k:Int):Bool:=!(!Q6 1 9 k||(l.take i).any fun y=>k==y)
def A0r (l:List Int):Bool:=J1 l (A1F l)
theorem B7b (l:List Int) (hl:l.length<9223372036854775807) (st:St):S P 259 [B6 l] st fun v st'=>v=.bool (A0r l)∧st'=st:=by
 refine A7 [] C0 mixed Tryz.func259 (by rfl) rfl rfl rfl ?_;conv=>whnf
 refine ⟨[0,5,6,7],fun m vs st'=>∃ i:Nat,i≤l.length∧(∀ k,k<i→A1F l k (l.getD k default)=true)∧m=l.length - i∧vs=[B6 l,B6 l,eI l.length,eI i]∧st'=st,?_,?_⟩
 ·conv=>whnf
  exact ⟨_,0,Nat.zero_le _,fun k hk=>absurd hk (by omega),rfl,rfl,rfl⟩
 ·rintro m vs st' ⟨i,hi,hok,rfl,rfl,rfl⟩
  conv=>whnf
  cases h:decide ((i:Int)<(l.length:Int))
  ·have:=of_decide_eq_false h
   conv=>whnf
   refine ⟨?_,rfl⟩
   rw [show A0r l=true from J2 fun k hk=>hok k (by omega)];rfl
  ·have hi':i<l.length:=by have:=of_decide_eq_true h;omega
   conv=>whnf
   refine ⟨rfl,⟨by omega,by omega⟩,?_⟩
   have yes:A1F l i (l.getD (i:Int).toNat default)=true→∀ k,k<i+1→A1F l k (l.getD k default)=true:=fun h=>L9 hok h
   have no:A1F l i (l.getD (i:Int).toNat default)=false→A0r l=false:=fun h=>T3 hi' h
   unfold A1F at yes no;conv=>whnf
   refine B3 (C4l _ _) ?_;conv=>whnf
   refine C4 (fun h1=>?_) (fun h1=>?_)
   ·rw [h1];conv=>whnf
    refine ⟨?_,rfl⟩
    rw [no (by rw [h1];rfl)];rfl
   ·rw [h1];conv=>whnf
    refine ⟨rfl,⟨by omega,by omega,by omega⟩,?_⟩;conv=>whnf
    refine I7 (B4.cons (B0h 1 eI l i _ _ hi (by omega) (fun k hk=>by simp) _) (B4.keep _ _)) (B3 (C0e (l.take i) (by rw [List.length_take];omega) _ _) ?_);conv=>whnf
    refine C4 (fun h2=>?_) (fun h2=>?_)
    ·rw [h2];conv=>whnf
     refine ⟨?_,rfl⟩
     rw [no (by rw [h2,Bool.or_true,Bool.not_true])];rfl
    ·rw [h2];conv=>whnf
     refine ⟨rfl,?_⟩;conv=>whnf
     exact ⟨l.length - (i+1),by omega,i+1,by omega,yes (by rw [h1,h2];rfl),rfl,by rw [C2 (by omega)],rfl⟩
def A5x (p:A4u):Bool:=Q6 0 100000 p.window&&Q6 0 100000 p.grace&&decide (p.mode≥1)&&decide (p.mode≤3)&&Q6 0 10000 p.restock&&A0r p.order&&A0r p.credit
structure V6 (r:F9):Prop where
 promos:r.promos.length≤Big
 fit:∀ p∈r.promos,O0 p
 order:r.policy.order.length<9223372036854775807
 credit:r.policy.credit.length<9223372036854775807
theorem C0C (p:A4u) (h1:p.order.length<9223372036854775807) (h2:p.credit.length<9223372036854775807) (st:St):S P 178 [C2j p] st fun v st'=>v=.bool (A5x p)∧st'=st:=by
 refine A7 [1] C0 mixed Tryz.func178 (by rfl) rfl rfl rfl ?_
 repeat' ((conv=>whnf);first | refine B3 (C5g _ st) ?_ | refine B3 (B2N _ st) ?_ | refine B3 (B7b p.order h1 st) ?_ | refine B3 (B7b p.credit h2 st) ?_ | (refine C4 (fun h=>?_) (fun h=>?_)<;>rw [h]))
 all_goals (conv=>whnf)
 all_goals (refine ⟨?_,rfl⟩;show AV.bool _=AV.bool _;congr 1)
 all_goals (simp only [A5x, *,Bool.true_and,Bool.false_and,Bool.and_true,Bool.and_false,Bool.or_true,Bool.or_false,Bool.true_or,Bool.false_or,Bool.not_true,Bool.not_false,Bool.not_not];try rfl)
def J0 (r:F9):Bool:=A0q r.items&&promosC r.promos&&A6u r.tax&&A8m r.ship&&A5x r.policy
theorem B7o (r:F9) (hf:V6 r) (st:St):S P 95 [I8 r] st fun v st'=>v=.bool (J0 r)∧st'=st:=by
 refine A7 [1] C0 mixed Tryz.func95 (by rfl) rfl rfl rfl ?_
 repeat' ((conv=>whnf);first | refine B3 (C2w r.items st) ?_ | refine B3 (C0E r.promos hf.promos hf.fit st) ?_ | refine B3 (C6R r.tax st) ?_ | refine B3 (C4G r.ship st) ?_ | refine B3 (C0C r.policy hf.order hf.credit st) ?_ | (refine C4 (fun h=>?_) (fun h=>?_)<;>rw [h]))
 all_goals (conv=>whnf)
 all_goals (refine ⟨?_,rfl⟩;show AV.bool _=AV.bool _;congr 1)
 all_goals (simp only [J0, *,Bool.true_and,Bool.false_and,Bool.and_true,Bool.and_false,Bool.or_true,Bool.or_false,Bool.true_or,Bool.false_or,Bool.not_true,Bool.not_false,Bool.not_not];try rfl)
end Go.Proofs.YtbajhapmlfbelaaGreat
namespace Go.Proofs.YtbajhapmlfbelaaGreat
open Go Go.Ab
theorem A2d:∀ x:List UInt8,Op.bytesLess x x=false
 | []=>rfl
 | a::x=>by simp [Op.bytesLess,A2d x,UInt8.lt_irrefl]
theorem B3w:∀ x y z:List UInt8,Op.bytesLess x y=true→Op.bytesLess y z=true→Op.bytesLess x z=true
 | _,_,[],_,h=>by simp [Op.bytesLess] at h
 | _,[],_::_,h,_=>by simp [Op.bytesLess] at h
 | [],_::_,_::_,_,_=>by simp [Op.bytesLess]
 | a::x,b::y,c::z,h1,h2=>by
  simp only [Op.bytesLess,Bool.or_eq_true,Bool.and_eq_true,decide_eq_true_eq,beq_iff_eq] at *
  rcases h1 with h1 | ⟨rfl,h1⟩
  ·rcases h2 with h2 | ⟨rfl,h2⟩
   ·exact .inl (UInt8.lt_trans h1 h2)
   ·exact .inl h1
  ·rcases h2 with h2 | ⟨rfl,h2⟩
   ·exact .inl h2
   ·exact .inr ⟨rfl,B3w x y z h1 h2⟩
theorem B9D:∀ x y:List UInt8,Op.bytesLess x y=false→Op.bytesLess y x=false→x=y
 | [],[],_,_=>rfl
 | [],_::_,h,_=>by simp [Op.bytesLess] at h
 | _::_,[],_,h=>by simp [Op.bytesLess] at h
 | a::x,b::y,h1,h2=>by
  simp only [Op.bytesLess,Bool.or_eq_false_iff,Bool.and_eq_false_iff,decide_eq_false_iff_not,beq_eq_false_iff_ne] at *
  have hab:a=b:=by
   have n1:=UInt8.not_lt.1 h1.1
   have n2:=UInt8.not_lt.1 h2.1
   exact UInt8.le_antisymm n2 n1
  subst hab
  rw [B9D x y (h1.2.resolve_left (by simp)) (h2.2.resolve_left (by simp))]
theorem A3W (a:E0):slt a a=false:=A2d _
theorem B1D {a b c:E0} (h1:slt a b=true) (h2:slt b c=true):slt a c=true:=B3w _ _ _ h1 h2
theorem A5C {a b:E0} (h1:slt a b=false) (h2:slt b a=false):a.toList=b.toList:=B9D _ _ h1 h2
theorem A5B {a b:E0} (h:slt a b=true):slt b a=false:=by
 cases hb:slt b a with
 | false=>rfl
 | true=>have:=B1D h hb;rw [A3W] at this;cases this
theorem A3t {a b c:E0} (h1:slt b a=false) (h2:slt c b=false):slt c a=false:=by
 cases hca:slt c a with
 | false=>rfl
 | true =>
  cases hab:slt a b with
  | true=>have:=B1D hca hab;rw [this] at h2;cases h2
  | false =>
   have e:=A5C hab h1
   have:slt c b=true:=by unfold slt at *;rw [←e];exact hca
   rw [this] at h2;cases h2
theorem B1C {a a' b b':E0} (h1:a.toList=a'.toList) (h2:b.toList=b'.toList):slt a b=slt a' b':=by unfold slt;rw [h1,h2]
def A3u (l:List E0) (k:Nat):Bool:=k==0||!slt (l.getD k default) (l.getD (k - 1) default)
theorem B4O {l:List E0} (h:∀ k,k<l.length→A3u l k=true) {a b:Nat} (hab:a≤b) (hb:b<l.length):slt (l.getD b default) (l.getD a default)=false:=by
 induction b with
 | zero=>have:a=0:=by omega
         subst this;exact A3W _
 | succ b ih =>
  rcases Nat.lt_or_ge a (b+1) with hlt | hge
  ·have h1:=ih (by omega) (by omega)
   have h2:=h (b+1) hb
   simp only [A3u,Nat.add_one_ne_zero,beq_iff_eq,Bool.or_eq_true,Bool.not_eq_true',Nat.add_sub_cancel,false_or] at h2
   exact A3t h1 h2
  ·have:a=b+1:=by omega
   subst this;exact A3W _
end Go.Proofs.YtbajhapmlfbelaaGreat
namespace Go.Proofs.YtbajhapmlfbelaaGreat
open Go Go.Ab
attribute [local irreducible] upd del
theorem C3F (a:E0) (st:St):S P 263 [eS a] st fun v st'=>v=.bool false∧st'=st:=by
 refine A7 [] C0 mixed Tryz.func263 (by rfl) rfl rfl rfl ?_;conv=>whnf
 refine ⟨?_,rfl⟩
 show AV.bool (!(a.toList==a.toList))=_
 simp
def A7A (a b:E0):Int:=if slt a b=true then -1 else if slt b a=true then 1 else 0
theorem B6X (a b:E0):(!(Op.bytesLess a.toList b.toList||a.toList==b.toList))=slt b a:=by
 cases h1:Op.bytesLess a.toList b.toList with
 | true=>rw [A5B (a:=a) (b:=b) h1];rfl
 | false =>
  cases h2:slt b a with
  | true =>
   have hne:(a.toList==b.toList)=false:=by
    rw [beq_eq_false_iff_ne];intro e
    unfold slt at h2;rw [e,A2d] at h2;cases h2
   rw [hne];rfl
  | false=>rw [A5C (a:=a) (b:=b) h1 h2];simp
theorem C3z (a b:E0) (st:St):S P 192 [eS a,eS b] st fun v st'=>v=eI (A7A a b)∧st'=st:=by
 refine A7 [] C0 mixed Tryz.func192 (by rfl) rfl rfl rfl ?_;conv=>whnf
 refine B3 (C3F _ _) ?_;conv=>whnf
 refine B3 (C3F _ _) ?_;conv=>whnf
 refine C4 (fun h=>?_) (fun h=>?_)<;>rw [h]
 ·conv=>whnf
  exact ⟨by rw [show A7A a b = -1 from if_pos h];rfl,rfl⟩
 ·have h0:¬ slt a b=true:=by rw [show slt a b=false from h];simp
  conv=>whnf
  refine C4 (fun h2=>?_) (fun h2=>?_)
  ·have h3:slt b a=true:=by rw [←B6X a b];exact h2
   rw [h2];conv=>whnf
   exact ⟨by rw [show A7A a b=1 by unfold A7A;rw [if_neg h0,if_pos h3]];rfl,rfl⟩
  ·have h3:¬ slt b a=true:=by rw [←B6X a b,Bool.not_eq_true];exact h2
   rw [h2];conv=>whnf
   exact ⟨by rw [show A7A a b=0 by unfold A7A;rw [if_neg h0,if_neg h3]];rfl,rfl⟩
theorem B1W (a b:Ab.Item) (st:St):S P 201 [E5 a,E5 b] st fun v st'=>v=eI (A7A a.sku b.sku)∧st'=st:=by
 refine A7 [2,3] C0 mixed Tryz.func201 (by rfl) rfl rfl rfl ?_;conv=>whnf
 refine B3 (C3z _ _ _) ?_;conv=>whnf
 exact ⟨rfl,rfl⟩
theorem A9d (a b:E0):decide (A7A a b<0)=slt a b:=by
 unfold A7A
 split
 ·rename_i h;rw [h];rfl
 ·rename_i h
  rw [Bool.not_eq_true] at h
  rw [h];split<;>rfl
theorem B7M (a b:E0):(A7A a b==0)=(a.toList==b.toList):=by
 unfold A7A
 split
 ·rename_i h
  have:(a.toList==b.toList)=false:=by
   rw [beq_eq_false_iff_ne];intro e
   unfold slt at h;rw [e,A2d] at h;cases h
  rw [this];rfl
 ·split
  ·rename_i h1 h
   have:(a.toList==b.toList)=false:=by
    rw [beq_eq_false_iff_ne];intro e
    unfold slt at h;rw [e,A2d] at h;cases h
   rw [this];rfl
  ·rename_i h1 h2
   rw [Bool.not_eq_true] at h1 h2
   rw [A5C h1 h2];simp
abbrev skus (l:List Ab.Item):List E0:=l.map Ab.Item.sku
theorem B2S (l:List Ab.Item) {k:Nat} (hk:k<l.length):(skus l).getD k default=(l.getD k default).sku:=E2 Ab.Item.sku l hk
def A7n (l:List E0):Bool:=(List.range l.length).all (A3u l)
theorem C1r (l:List Ab.Item) (hl:l.length≤9223372036854775807) (st:St):S P 200 [B1 4 E5 l,.fn (.func 201) [] []] st fun v st'=>v=.bool (A7n (skus l))∧st'=st:=by
 refine A7 [] C0 mixed Tryz.func200 (by rfl) rfl rfl rfl ?_;conv=>whnf
 have hlen:(skus l).length=l.length:=List.length_map ..
 refine ⟨[0,1,5],fun m vs st'=>∃ i:Int,-1≤i∧i<l.length∧(∀ k:Nat,i<k→k<l.length→A3u (skus l) k=true)∧m=(i+1).toNat∧vs=[B1 4 E5 l,.fn (.func 201) [] [],eI i]∧st'=st,?_,?_⟩
 ·conv=>whnf
  have w:IntKind.i64.wrap ((l.length:Int) - 1)=(l.length:Int) - 1:=A8 (by omega) (by omega)
  exact ⟨_,(l.length:Int) - 1,by omega,by omega,fun k h1 h2=>by omega,rfl,by rw [w],rfl⟩
 ·rintro m vs st' ⟨i,h0,hi,hok,rfl,rfl,rfl⟩
  conv=>whnf
  cases h:decide (i>0)
  ·have:=of_decide_eq_false h
   conv=>whnf
   refine ⟨?_,rfl⟩
   rw [show A7n (skus l)=true from B5i fun k hk=>?_];rfl
   rw [hlen] at hk
   rcases Nat.eq_zero_or_pos k with e | e
   ·subst e;rfl
   ·exact hok k (by omega) hk
  ·have hp:=of_decide_eq_true h
   have w:IntKind.i64.wrap (i - 1)=i - 1:=A8 (by omega) (by omega)
   conv=>whnf
   refine ⟨[],[],[0,1,2,3,4,5,6,7,8,9,10,11],by kernel_rfl,?_⟩;conv=>whnf
   refine ⟨rfl,⟨by omega,by omega⟩,?_⟩;conv=>whnf
   rw [w]
   refine ⟨rfl,⟨by omega,by omega⟩,?_⟩;conv=>whnf
   refine ⟨_,D2 (B1W (l.getD i.toNat default) (l.getD (i - 1).toNat default) _),?_⟩;conv=>whnf
   rw [A9d]
   have e:A3u (skus l) i.toNat=!slt (l.getD i.toNat default).sku (l.getD (i - 1).toNat default).sku:=by
    unfold A3u
    rw [beq_false_of_ne (by omega),Bool.false_or,B2S l (by omega),B2S l (by omega),show i.toNat - 1=(i - 1).toNat by omega]
   refine C4 (fun h2=>?_) (fun h2=>?_)
   ·rw [h2] at e ⊢;conv=>whnf
    refine ⟨?_,rfl⟩
    rw [show A7n (skus l)=false from A3n (k:=i.toNat) (by omega) e];rfl
   ·rw [h2] at e ⊢;conv=>whnf
    refine ⟨rfl,?_⟩;conv=>whnf
    exact ⟨i.toNat,by omega,i - 1,by omega,by omega,fun k h1 h2=>by
     rcases (by omega:k=i.toNat∨i<k) with e' | e'
     ·rw [e'];exact e
     ·exact hok k e' h2,by omega,by rw [w],rfl⟩
theorem C2m (s:E0) (x:Ab.Item) (st:St):S P 203 [E5 x,.fptr (eS s) 0] st fun v st'=>v=.bool (x.sku.toList==s.toList)∧st'=st:=by
 refine A7 [2] C0 mixed Tryz.func203 (by rfl) rfl rfl rfl ?_;conv=>whnf
 exact ⟨rfl,rfl⟩
abbrev X5 (l:List Ab.Item) (s:E0):Int:=idx (fun x=>x.sku.toList==s.toList) l
theorem A6U {i j:Int} (hi:0≤i) (hij:i<j) (hj:j≤9223372036854775807):IntKind.i64.wrap ((IntKind.u64.wrap (IntKind.i64.wrap (i+j))).fdiv (2 ^ (min (1:Int).toNat IntKind.u64.bits)))=(i+j) / 2:=by
 have w:IntKind.u64.wrap (IntKind.i64.wrap (i+j))=i+j:=by
  rw [IntKind.wrap_i64]
  show (_:Int) % 18446744073709551616=_
  omega
 rw [w]
 rw [show (min (1:Int).toNat IntKind.u64.bits)=1 from rfl,Int.fdiv_eq_ediv_of_nonneg _ (by decide)]
 rw [show ((2:Int) ^ 1)=2 from rfl,A8 (x:=(i+j) / 2) (by omega) (by omega)]
theorem C1d (l:List Ab.Item) (x:Ab.Item) (hl:l.length≤9223372036854775807) (hs:A7n (skus l)=true) (st:St) :
  S P 204 [B1 4 E5 l,E5 x,.fn (.func 201) [] []] st fun v st'=>(∃ (i:Nat) (b:Bool),v=.tuple [eI i,.bool b]∧(if b=true then X5 l x.sku=i else X5 l x.sku = -1))∧st'=st:=by
 refine A7 [4] C0 mixed Tryz.func204 (by rfl) rfl rfl rfl ?_;conv=>whnf
 have hlen:(skus l).length=l.length:=List.length_map ..
 have hmono:∀ a b:Nat,a≤b→b<l.length→slt (l.getD b default).sku (l.getD a default).sku=false:=fun a b hab hb=>by
  have:=B4O (l:=skus l) (fun k hk=>List.all_eq_true.1 hs k (List.mem_range.2 hk)) hab (by omega)
  rwa [B2S l hb,B2S l (by omega)] at this
 refine ⟨[0,2,4,8,9,10],fun m vs st'=>∃ i j:Nat,i≤j∧j≤l.length∧(∀ k,k<i→slt (l.getD k default).sku x.sku=true)∧(∀ k,j≤k→k<l.length→slt (l.getD k default).sku x.sku=false)∧m=j - i ∧
  vs=[B1 4 E5 l,.fn (.func 201) [] [],.fptr (E5 x) 0,eI l.length,eI i,eI j]∧st'=st,?_,?_⟩
 ·conv=>whnf
  exact ⟨_,0,l.length,Nat.zero_le _,Nat.le_refl _,fun k hk=>absurd hk (by omega),fun k h1 h2=>absurd h1 (by omega),rfl,rfl,rfl⟩
 ·rintro m vs st' ⟨i,j,hij,hj,hlo,hhi,rfl,rfl,rfl⟩
  conv=>whnf
  cases h:decide ((i:Int)<(j:Int))
  ·have:=of_decide_eq_false h
   obtain rfl:i=j:=by omega
   conv=>whnf
   refine ⟨[],[],[0,1,2,3,4,5,6,7,8,9,10,11,12,13,14,15],by kernel_rfl,?_⟩;conv=>whnf
   have hne:∀ k,k<i→((l.getD k default).sku.toList==x.sku.toList)=false:=fun k hk=>by
    rw [beq_eq_false_iff_ne];intro e
    have:=hlo k hk
    unfold slt at this;rw [e,A2d] at this;cases this
   refine C4 (fun h1=>?_) (fun h1=>?_)<;>rw [h1]<;>simp only [decide_eq_true_eq,decide_eq_false_iff_not] at h1
   ·conv=>whnf
    refine ⟨rfl,⟨by omega,by omega⟩,?_⟩;conv=>whnf
    refine ⟨_,D2 (B1W (l.getD (i:Int).toNat default) x _),?_⟩;conv=>whnf
    rw [B7M]
    refine ⟨⟨i,(l.getD (i:Int).toNat default).sku.toList==x.sku.toList,rfl,?_⟩,rfl⟩
    split
    ·rename_i he
     exact A1h (by omega) hne he
    ·rename_i he
     rw [Bool.not_eq_true] at he
     have hlt:slt (l.getD i default).sku x.sku=false:=hhi i (Nat.le_refl _) (by omega)
     refine R5 fun k hk=>?_
     rcases Nat.lt_or_ge k i with hki | hki
     ·exact hne k hki
     ·rw [beq_eq_false_iff_ne];intro e
      have h3:=hmono i k hki hk
      rw [beq_eq_false_iff_ne] at he
      refine he (A5C hlt ?_)
      rw [←B1C (a:=(l.getD k default).sku) e rfl];exact h3
   ·conv=>whnf
    refine ⟨⟨i,false,rfl,?_⟩,rfl⟩
    rw [if_neg (by simp)]
    exact R5 fun k hk=>hne k (by omega)
  ·have hlt:=of_decide_eq_true h
   conv=>whnf
   rw [A6U (i:=i) (j:=j) (by omega) (by omega) (by omega)]
   have eh:((i:Int)+(j:Int)) / 2=(((i+j) / 2:Nat):Int):=by omega
   rw [eh]
   generalize hh:(i+j) / 2=mid at *
   refine ⟨[],[],[0,1,2,3,4,5,6,7],by kernel_rfl,?_⟩;conv=>whnf
   refine ⟨rfl,⟨by omega,by omega⟩,?_⟩;conv=>whnf
   refine ⟨_,D2 (B1W (l.getD (mid:Int).toNat default) x _),?_⟩;conv=>whnf
   rw [A9d]
   refine C4 (fun h1=>?_) (fun h1=>?_)
   ·have h1':slt (l.getD mid default).sku x.sku=true:=h1
    rw [h1];conv=>whnf
    refine ⟨rfl,?_⟩;conv=>whnf
    refine ⟨j - (mid+1),by omega,mid+1,j,by omega,hj,fun k hk=>?_,hhi,rfl,by rw [C2 (by omega)],rfl⟩
    cases hk2:slt (l.getD k default).sku x.sku with
    | true=>rfl
    | false =>
     have h3:=hmono k mid (by omega) (by omega)
     have:=A3t hk2 (show slt (l.getD mid default).sku (l.getD k default).sku=false from h3)
     rw [h1'] at this
     cases this
   ·have h1':slt (l.getD mid default).sku x.sku=false:=h1
    rw [h1];conv=>whnf
    refine ⟨rfl,?_⟩;conv=>whnf
    refine ⟨mid - i,by omega,i,mid,by omega,by omega,hlo,fun k h2 h3=>?_,rfl,rfl,rfl⟩
    exact A3t (b:=(l.getD mid default).sku) (by exact h1') (hmono mid k h2 h3)
theorem B5B (l:List Ab.Item) (s:E0) (hl:l.length≤9223372036854775807) (st:St):S P 114 [B1 4 E5 l,eS s] st fun v st'=>v=eI (X5 l s)∧st'=st:=by
 refine A7 [3,5] C0 mixed Tryz.func114 (by rfl) rfl rfl rfl ?_;conv=>whnf
 refine B3 (C1r l (by omega) _) ?_;conv=>whnf
 refine C4 (fun h=>?_) (fun h=>?_)
 ·rw [h];conv=>whnf
  refine B3 (B2o l (by omega) _ [.fptr (eS s) 0] (fun x=>x.sku.toList==s.toList) _ fun x _=>C2m s x _) ?_;conv=>whnf
  exact ⟨rfl,rfl⟩
 ·rw [h]
  have hs:A7n (skus l)=true:=by simpa using h
  conv=>whnf
  refine call (C1d l ⟨s,⟨#[]⟩,0,false⟩ hl hs _) (fun v st' hv=>?_)
  obtain ⟨⟨i,b,rfl,hb⟩,rfl⟩:=hv
  conv=>whnf
  cases b with
  | true =>
   conv=>whnf
   rw [if_pos rfl] at hb
   exact ⟨by rw [show X5 l s=i from hb];rfl,rfl⟩
  | false =>
   conv=>whnf
   rw [if_neg (by simp)] at hb
   exact ⟨by rw [show X5 l s = -1 from hb];rfl,rfl⟩
def J6 (l:List F5):Int:=l.foldl (fun s x=>s+x.qty) 0
def I2 (l:List F5):Int:=l.foldl (fun s x=>s+x.qty * x.price) 0
theorem Z1 (x:F5):lineC x=true↔(0≤x.qty∧x.qty≤100000)∧(0≤x.price∧x.price≤1000000000):=by
 simp [lineC,Q6]
theorem A9u {x:F5} (h:lineC x=true):0≤x.qty * x.price∧x.qty * x.price≤100000000000000:=by
 obtain ⟨⟨a,b⟩,c,d⟩:=(Z1 x).1 h
 exact ⟨Int.mul_nonneg a c,Int.mul_le_mul b d c (by omega)⟩
theorem C4Q (l:List F5) (hl:l.length≤1000) (hok:∀ x∈l,lineC x=true) (st:St):S P 276 [B1 3 F7 l] st fun v st'=>v=.tuple [eI (J6 l),eI (I2 l)]∧st'=st:=by
 refine A7 [7] C0 mixed Tryz.func276 (by rfl) rfl rfl rfl ?_;conv=>whnf
 refine ⟨[4,5,8,9,10],fun m vs st'=>∃ i:Nat,i≤l.length∧(0≤J6 (l.take i)∧J6 (l.take i)≤i * 100000)∧(0≤I2 (l.take i)∧I2 (l.take i)≤i * 100000000000000)∧m=l.length - i∧vs=[eI (J6 (l.take i)),eI (I2 (l.take i)),B1 3 F7 l,eI l.length,eI i]∧st'=st,?_,?_⟩
 ·conv=>whnf
  exact ⟨_,0,Nat.zero_le _,⟨Int.le_refl _,by simp [J6]⟩,⟨Int.le_refl _,by simp [I2]⟩,rfl,rfl,rfl⟩
 ·rintro m vs st' ⟨i,hi,hu,hg,rfl,rfl,rfl⟩
  conv=>whnf
  cases h:decide ((i:Int)<(l.length:Int))
  ·have:=of_decide_eq_false h
   obtain rfl:i=l.length:=by omega
   conv=>whnf
   refine ⟨?_,rfl⟩
   rw [List.take_length];rfl
  ·have hi':i<l.length:=by have:=of_decide_eq_true h;omega
   have hmem:l.getD (i:Int).toNat default∈l:=by
    rw [Int.toNat_natCast,List.getD_eq_getElem?_getD,List.getElem?_eq_getElem hi'];exact List.getElem_mem hi'
   have hx:=hok _ hmem
   obtain ⟨⟨q0,q1⟩,_⟩:=(Z1 _).1 hx
   obtain ⟨m0,m1⟩:=A9u hx
   have eu:J6 (l.take (i+1))=J6 (l.take i)+(l.getD (i:Int).toNat default).qty:=P1 hi' _ _
   have eg:I2 (l.take (i+1))=I2 (l.take i)+(l.getD (i:Int).toNat default).qty * (l.getD (i:Int).toNat default).price:=P1 hi' _ _
   have w1:IntKind.i64.wrap (J6 (l.take i)+(l.getD (i:Int).toNat default).qty)=J6 (l.take (i+1)):=by rw [eu];exact A8 (by omega) (by omega)
   have w2:IntKind.i64.wrap ((l.getD (i:Int).toNat default).qty * (l.getD (i:Int).toNat default).price)=(l.getD (i:Int).toNat default).qty * (l.getD (i:Int).toNat default).price:=A8 (by omega) (by omega)
   have w3:IntKind.i64.wrap (I2 (l.take i)+(l.getD (i:Int).toNat default).qty * (l.getD (i:Int).toNat default).price)=I2 (l.take (i+1)):=by rw [eg];exact A8 (by omega) (by omega)
   conv=>whnf
   refine ⟨rfl,⟨by omega,by omega⟩,?_⟩;conv=>whnf
   refine ⟨rfl,?_⟩;conv=>whnf
   refine ⟨l.length - (i+1),by omega,i+1,by omega,?_,?_,rfl,?_,rfl⟩
   ·rw [eu];omega
   ·rw [eg];omega
   ·rw [C2 (by omega),←w1,←w3,w2]
def I4 (kn:E0→Bool) (x:F5):Bool:=!(kn x.sku&&lineC x)
def J3 (kn:E0→Bool) (l:List F5):Int :=
 if l.length>1000 then 6 else match l.find? (I4 kn) with
  | some x=>if kn x.sku=true then 2 else 7
  | none=>if (decide (J6 l>100000)||decide (I2 l>10000000000000))=true then 5 else 0
theorem A3k {α : Type} [Inhabited α] {p : α→Bool} {l:List α} {i:Nat} (hi:i<l.length) (h:∀ k,k<i→p (l.getD k default)=false) (hp:p (l.getD i default)=true):l.find? p=some (l.getD i default):=by
 induction l generalizing i with
 | nil=>simp at hi
 | cons a l ih =>
  cases i with
  | zero=>simp only [List.getD_cons_zero] at hp ⊢;rw [List.find?_cons_of_pos hp]
  | succ i =>
   have h0:=h 0 (by omega)
   simp only [List.getD_cons_zero] at h0
   rw [List.find?_cons_of_neg (by simp [h0])]
   simp only [List.getD_cons_succ] at hp ⊢
   exact ih (by simpa using hi) (fun k hk=>by simpa using h (k+1) (by omega)) hp
theorem A7D {α : Type} [Inhabited α] {p : α→Bool} {l:List α} (h:∀ k,k<l.length→p (l.getD k default)=false):l.find? p=none:=by
 rw [List.find?_eq_none]
 intro x hx
 obtain ⟨i,hi,rfl⟩:=List.getElem_of_mem hx
 have:=h i hi
 simpa [hi] using this
theorem B5 {α : Type} [Inhabited α] {l:List α} {i:Nat} (hi:i<l.length):l.getD i default∈l:=by
 rw [List.getD_eq_getElem?_getD,List.getElem?_eq_getElem hi];exact List.getElem_mem hi
theorem F2 {α : Type} [Inhabited α] {l:List α} {x : α} (h:x∈l):∃ i,i<l.length∧x=l.getD i default:=by
 obtain ⟨i,hi,rfl⟩:=List.getElem_of_mem h
 exact ⟨i,hi,by simp [hi]⟩
theorem B6O (l:List F5) (kn:E0→Bool) (g:FuncId) (cs:List AV) (st:St) (hg:∀ x∈l,S P g (eS x.sku::cs) st fun v st'=>v=.bool (kn x.sku)∧st'=st) :
  S P 195 [B1 3 F7 l,.fn (.func g) [] cs] st fun v st'=>v=eI (J3 kn l)∧st'=st:=by
 refine A7 [6] C0 mixed Tryz.func195 (by rfl) rfl rfl rfl ?_;conv=>whnf
 refine C4 (fun h=>?_) (fun h=>?_)<;>rw [h]<;>simp only [decide_eq_true_eq,decide_eq_false_iff_not] at h
 ·conv=>whnf
  exact ⟨by rw [show J3 kn l=6 from if_pos (by omega)];rfl,rfl⟩
 have hs:l.length≤1000:=by omega
 have hc:J3 kn l=match l.find? (I4 kn) with
  | some x=>if kn x.sku=true then 2 else 7
  | none=>if (decide (J6 l>100000)||decide (I2 l>10000000000000))=true then 5 else 0:=if_neg (by omega)
 conv=>whnf
 refine ⟨[0,1,12,13,14],fun m vs st'=>∃ i:Nat,i≤l.length∧(∀ k,k<i→I4 kn (l.getD k default)=false)∧m=l.length - i∧vs=[B1 3 F7 l,.fn (.func g) [] cs,B1 3 F7 l,eI l.length,eI i]∧st'=st,?_,?_⟩
 ·conv=>whnf
  exact ⟨_,0,Nat.zero_le _,fun k hk=>absurd hk (by omega),rfl,rfl,rfl⟩
 ·rintro m vs st' ⟨i,hi,hok,rfl,rfl,rfl⟩
  conv=>whnf
  cases h:decide ((i:Int)<(l.length:Int))
  ·have:=of_decide_eq_false h
   rw [A7D fun k hk=>hok k (by omega)] at hc
   have hall:∀ x∈l,lineC x=true:=fun x hx=>by
    obtain ⟨k,hk,rfl⟩:=F2 hx
    have:=hok k (by omega)
    simp only [I4,Bool.not_eq_false',Bool.and_eq_true] at this
    exact this.2
   conv=>whnf
   refine B3 (C4Q l hs hall _) ?_;conv=>whnf
   refine C4 (fun h1=>?_) (fun h1=>?_)
   ·rw [h1] at hc ⊢;conv=>whnf
    exact ⟨by rw [hc];rfl,rfl⟩
   ·rw [h1] at hc ⊢;conv=>whnf
    refine C4 (fun h2=>?_) (fun h2=>?_)
    ·rw [h2] at hc ⊢;conv=>whnf
     exact ⟨by rw [hc];rfl,rfl⟩
    ·rw [h2] at hc ⊢;conv=>whnf
     exact ⟨by rw [hc];rfl,rfl⟩
  ·have hi':i<l.length:=by have:=of_decide_eq_true h;omega
   have hmem:l.getD (i:Int).toNat default∈l:=B5 hi'
   conv=>whnf
   refine ⟨rfl,⟨by omega,by omega⟩,?_⟩;conv=>whnf
   refine B3 (hg _ hmem) ?_;conv=>whnf
   refine C4 (fun h1=>?_) (fun h1=>?_)
   ·have hk:kn (l.getD (i:Int).toNat default).sku=false:=by simpa using h1
    rw [h1];conv=>whnf
    rw [A3k hi' hok (by show I4 kn (l.getD (i:Int).toNat default)=true;unfold I4;rw [hk];rfl)] at hc
    simp only at hc
    rw [if_neg (by rw [show kn (l.getD i default).sku=false from hk];simp)] at hc
    exact ⟨by rw [hc];rfl,rfl⟩
   ·have hk:kn (l.getD (i:Int).toNat default).sku=true:=by simpa using h1
    rw [h1];conv=>whnf
    refine B3 (C4m (l.getD (i:Int).toNat default) _) ?_;conv=>whnf
    refine C4 (fun h2=>?_) (fun h2=>?_)
    ·have hl:lineC (l.getD (i:Int).toNat default)=false:=by simpa using h2
     rw [h2];conv=>whnf
     rw [A3k hi' hok (by show I4 kn (l.getD (i:Int).toNat default)=true;unfold I4;rw [hl,Bool.and_false];rfl)] at hc
     simp only at hc
     rw [if_pos (show kn (l.getD i default).sku=true from hk)] at hc
     exact ⟨by rw [hc];rfl,rfl⟩
    ·have hl:lineC (l.getD (i:Int).toNat default)=true:=by simpa using h2
     rw [h2];conv=>whnf
     refine ⟨rfl,?_⟩;conv=>whnf
     exact ⟨l.length - (i+1),by omega,i+1,by omega,L9 hok (by show I4 kn (l.getD (i:Int).toNat default)=false;unfold I4;rw [hk,hl];rfl),rfl,by rw [C2 (by omega)],rfl⟩
theorem B9y (s:E0) (st:St):S P 234 [eS s] st fun v st'=>v=.bool true∧st'=st:=by
 refine A7 [] C0 mixed Tryz.func234 (by rfl) rfl rfl rfl ?_;conv=>whnf
 exact ⟨rfl,rfl⟩
theorem C5s (l:List F5) (st:St):S P 144 [B1 3 F7 l] st fun v st'=>v=.bool (J3 (fun _=>true) l==0)∧st'=st:=by
 refine A7 [] C0 mixed Tryz.func144 (by rfl) rfl rfl rfl ?_;conv=>whnf
 refine B3 (B6O l (fun _=>true) _ [] _ fun x _=>B9y x.sku _) ?_;conv=>whnf
 exact ⟨rfl,rfl⟩
theorem C2x (items:List Ab.Item) (hl:items.length≤9223372036854775807) (s:E0) (st:St):S P 196 [eS s,.fptr (B1 4 E5 items) 0] st fun v st'=>v=.bool (decide (X5 items s≥0))∧st'=st:=by
 refine A7 [] C0 mixed Tryz.func196 (by rfl) rfl rfl rfl ?_;conv=>whnf
 refine B3 (B5B items s hl _) ?_;conv=>whnf
 exact ⟨rfl,rfl⟩
def known (items:List Ab.Item) (s:E0):Bool:=decide (X5 items s≥0)
theorem B6G (items:List Ab.Item) (l:List F5) (hl:items.length≤9223372036854775807) (st:St):S P 102 [B1 4 E5 items,B1 3 F7 l] st fun v st'=>v=eI (J3 (known items) l)∧st'=st:=by
 refine A7 [2] C0 mixed Tryz.func102 (by rfl) rfl rfl rfl ?_;conv=>whnf
 refine B3 (B6O l (known items) _ [.fptr (B1 4 E5 items) 0] _ fun x _=>C2x items hl x.sku _) ?_;conv=>whnf
 exact ⟨rfl,rfl⟩
def D1 (items:List Ab.Item) (l:List F5):List Ab.Item:=l.map fun x=>items.getD (X5 items x.sku).toNat default
theorem B8a (items:List Ab.Item) (l:List F5) (hi:items.length≤9223372036854775807) (hl:l.length≤1000) (hk:∀ x∈l,known items x.sku=true) (st:St):S P 75 [B1 4 E5 items,B1 3 F7 l] st fun v st'=>v=B1 4 E5 (D1 items l)∧st'=st:=by
 have he:B1 4 E5 (D1 items l)=.arr 4 l.length (fun k=>E5 ((D1 items l).getD k default)):=by unfold B1;rw [show (D1 items l).length=l.length from List.length_map ..]
 rw [he]
 refine B9j (ty:=64) ?_
 refine A7 [7] C0 mixed Tryz.func75 (by rfl) rfl rfl rfl ?_;conv=>whnf
 refine ⟨[0,5,9,10,11],fun m vs st'=>∃ (i:Nat) (sv:AV),i≤l.length∧m=l.length - i∧vs=[B1 4 E5 items,sv,B1 3 F7 l,eI l.length,eI i]∧H9 64 4 (fun k=>E5 ((D1 items l).getD k default)) st i sv st',?_,?_⟩
 ·conv=>whnf
  exact ⟨_,0,.emp,Nat.zero_le _,rfl,rfl,H9.start _ _ _ _⟩
 ·rintro m vs st' ⟨i,sv,hi,rfl,rfl,hc⟩
  conv=>whnf
  cases h:decide ((i:Int)<(l.length:Int))
  ·have:=of_decide_eq_false h
   obtain rfl:i=l.length:=by omega
   conv=>whnf
   exact hc
  ·have hi':i<l.length:=by have:=of_decide_eq_true h;omega
   have hmem:l.getD (i:Int).toNat default∈l:=B5 hi'
   have hkn:=hk _ hmem
   simp only [known,decide_eq_true_eq] at hkn
   have hlt:=(A9n (fun x:Ab.Item=>x.sku.toList==(l.getD (i:Int).toNat default).sku.toList) items).2
   conv=>whnf
   refine ⟨rfl,⟨by omega,by omega⟩,?_⟩;conv=>whnf
   refine B3 (B5B items (l.getD (i:Int).toNat default).sku (by omega) _) ?_;conv=>whnf
   refine C4 (fun h1=>?_) (fun h1=>?_)
   ·exact absurd (of_decide_eq_true h1) (by omega)
   ·rw [h1];conv=>whnf
    refine ⟨rfl,⟨by omega,by omega⟩,?_⟩;conv=>whnf
    refine H9.app rfl rfl rfl rfl rfl ?_ (by show (i+1) * 48≤140737488355328;omega) hc (fun sv' st'' hc'=>?_)
    ·have e:(D1 items l).getD i default=items.getD (X5 items (l.getD i default).sku).toNat default:=E2 (fun x:F5=>items.getD (X5 items x.sku).toNat default) l hi'
     rw [e];rfl
    conv=>whnf
    refine ⟨rfl,?_⟩;conv=>whnf
    exact ⟨l.length - (i+1),by omega,i+1,sv',by omega,rfl,by rw [C2 (by omega)],hc'⟩
end Go.Proofs.YtbajhapmlfbelaaGreat
namespace Go.Ab
abbrev QE:=Int×Int
def H7 (a b:QE):Bool:=decide (a.1>b.1)||(a.1==b.1&&decide (a.2<b.2))
theorem A7R (a b:QE):H7 a b=true↔a.1>b.1∨(a.1=b.1∧a.2<b.2):=by simp [H7]
theorem U1 (a b:QE):H7 a b=false↔¬(a.1>b.1∨(a.1=b.1∧a.2<b.2)):=by rw [←A7R,Bool.not_eq_true]
theorem A0D {a b:QE} (h:H7 a b=true):H7 b a=false:=by rw [A7R] at h;rw [U1];omega
theorem A1X (a:QE):H7 a a=false:=by rw [U1];omega
theorem A0B {a b c:QE} (h:H7 a b=false) (k:H7 b c=false):H7 a c=false:=by rw [U1] at *;omega
theorem C4o {a b c:QE} (h:H7 a b=false) (k:H7 c b=true):H7 a c=false:=by rw [U1] at *;rw [A7R] at k;omega
theorem A7S {a b:QE} (h:H7 a b=false) (k:H7 b a=false):a=b:=by
 rw [U1] at *
 exact Prod.ext (by omega) (by omega)
abbrev at_ (l:List QE) (k:Nat):QE:=l.getD k default
def swp (l:List QE) (i j:Nat):List QE:=(l.set i (at_ l j)).set j (at_ l i)
theorem B3d (l:List QE) (i j:Nat):(swp l i j).length=l.length:=by simp [swp]
theorem A6s {l:List QE} {i j:Nat} (hi:i<l.length) (hj:j<l.length) (k:Nat):at_ (swp l i j) k=if k=j then at_ l i else if k=i then at_ l j else at_ l k:=by
 unfold swp at_
 simp only [List.getD_eq_getElem?_getD,List.getElem?_set,List.length_set]
 by_cases h1:k=j
 ·subst h1;simp [hj]
 ·rw [if_neg (fun e=>h1 e.symm),if_neg h1]
  by_cases h2:k=i
  ·subst h2;simp [hi]
  ·rw [if_neg (fun e=>h2 e.symm),if_neg h2]
theorem B0p {l:List QE} {i j:Nat} (hi:i<l.length) (hj:j<l.length):(swp l i j).Perm l:=by
 have e1:at_ l j=l[j]:=by simp [at_,hj]
 have e2:at_ l i=l[i]:=by simp [at_,hi]
 unfold swp
 rw [e1,e2]
 exact List.set_set_perm hi hj
def Nah (l:List QE) (c p:Nat):Prop:=H7 (at_ l c) (at_ l p)=false
def W6 (c:Nat):Nat:=(c - 1) / 2
def A4s (l:List QE) (m:Nat):Prop:=∀ c,0<c→c<m→Nah l c (W6 c)
structure Rise (l:List QE) (m j:Nat):Prop where
 a:∀ c,0<c→c<m→c≠j→Nah l c (W6 c)
 b:∀ c,0<c→c<m→W6 c=j→0<j→Nah l c (W6 j)
structure Sink (l:List QE) (m i:Nat):Prop where
 a:∀ c,0<c→c<m→W6 c≠i→Nah l c (W6 c)
 b:∀ c,0<c→c<m→W6 c=i→0<i→Nah l c (W6 i)
theorem Rise.done {l:List QE} {m j:Nat} (h:Rise l m j) (hj:j=0∨Nah l j (W6 j)):A4s l m:=fun c h0 hc=>by
 by_cases e:c=j
 ·subst e;rcases hj with hj | hj
  ·omega
  ·exact hj
 ·exact h.a c h0 hc e
theorem Rise.step {l:List QE} {m j:Nat} (h:Rise l m j) (hm:m≤l.length) (hj:j<m) (h0:0<j) (ha:H7 (at_ l j) (at_ l (W6 j))=true):Rise (swp l (W6 j) j) m (W6 j):=by
 have hp:W6 j<j:=by unfold W6;omega
 have sw:=A6s (l:=l) (i:=W6 j) (j:=j) (by omega) (by omega)
 refine ⟨fun c hc0 hcm hne=>?_,fun c hc0 hcm hpc hp0=>?_⟩
 ·have hpc:W6 c<c:=by unfold W6;omega
  unfold Nah
  rw [sw c,sw (W6 c)]
  by_cases ecj:c=j
  ·subst ecj
   rw [if_pos rfl,if_neg (by omega),if_pos rfl]
   exact A0D ha
  ·rw [if_neg ecj,if_neg hne]
   by_cases epj:W6 c=j
   ·rw [if_pos epj];exact h.b c hc0 hcm epj h0
   ·rw [if_neg epj]
    by_cases epi:W6 c=W6 j
    ·rw [if_pos epi]
     have:=h.a c hc0 hcm ecj
     unfold Nah at this;rw [epi] at this
     exact C4o this ha
    ·rw [if_neg epi];exact h.a c hc0 hcm ecj
 ·have hpp:W6 (W6 j)<W6 j:=by unfold W6 at *;omega
  have hpj:=h.a (W6 j) hp0 (by omega) (by omega)
  unfold Nah at *
  rw [sw c,sw (W6 (W6 j)),if_neg (show ¬ W6 (W6 j)=j by omega),if_neg (show ¬ W6 (W6 j)=W6 j by omega)]
  by_cases ecj:c=j
  ·rw [if_pos ecj];exact hpj
  ·rw [if_neg ecj,if_neg (show ¬ c=W6 j by unfold W6 at *;omega)]
   have:=h.a c hc0 hcm ecj
   unfold Nah at this;rw [hpc] at this
   exact A0B this hpj
theorem Sink.done {l:List QE} {m i:Nat} (h:Sink l m i) (hc:∀ c,0<c→c<m→W6 c=i→Nah l c i):A4s l m:=fun c h0 hcm=>by
 by_cases e:W6 c=i
 ·rw [e];exact hc c h0 hcm e
 ·exact h.a c h0 hcm e
theorem Sink.step {l:List QE} {m i j:Nat} (h:Sink l m i) (hm:m≤l.length) (hj:j<m) (h0:0<j) (hp:W6 j=i) (ha:H7 (at_ l j) (at_ l i)=true)
  (hb:∀ c,0<c→c<m→W6 c=i→Nah l c j):Sink (swp l i j) m j:=by
 have hij:i<j:=by rw [←hp];unfold W6;omega
 have sw:=A6s (l:=l) (i:=i) (j:=j) (by omega) (by omega)
 refine ⟨fun c hc0 hcm hne=>?_,fun c hc0 hcm hpc hp0=>?_⟩
 ·have hpc:W6 c<c:=by unfold W6;omega
  unfold Nah
  rw [sw c,sw (W6 c),if_neg hne]
  by_cases ecj:c=j
  ·subst ecj
   rw [if_pos rfl,if_pos hp]
   exact A0D ha
  ·rw [if_neg ecj]
   by_cases epi:W6 c=i
   ·rw [if_pos epi,if_neg (by omega)]
    exact hb c hc0 hcm epi
   ·rw [if_neg epi]
    by_cases eci:c=i
    ·rw [if_pos eci]
     subst eci
     exact h.b j h0 hj hp hc0
    ·rw [if_neg eci];exact h.a c hc0 hcm epi
 ·have:j<c:=by unfold W6 at hpc;omega
  unfold Nah
  rw [hp,sw c,sw i,if_neg (show ¬ c=j by omega),if_neg (show ¬ c=i by omega),if_neg (show ¬ i=j by omega),if_pos rfl]
  have:=h.a c hc0 hcm (by omega)
  unfold Nah at this;rw [hpc] at this;exact this
theorem A4s.top {l:List QE} {m:Nat} (h:A4s l m):∀ k,k<m→Nah l k 0:=by
 intro k
 induction k using Nat.strongRecOn with
 | _ k ih =>
  intro hk
  rcases Nat.eq_zero_or_pos k with e | e
  ·subst e;exact A1X _
  ·have hp:W6 k<k:=by unfold W6;omega
   exact A0B (h k e hk) (ih (W6 k) hp (by omega))
theorem A4s.up {l:List QE} {m:Nat} (h:A4s l m) (x:QE) (hm:m=l.length):Rise (l++[x]) (m+1) m:=by
 have old:∀ k,k<m→at_ (l++[x]) k=at_ l k:=fun k hk=>by
  unfold at_;rw [List.getD_eq_getElem?_getD,List.getD_eq_getElem?_getD,List.getElem?_append_left (by omega)]
 refine ⟨fun c h0 hc hne=>?_,fun c h0 hc hpc hm0=>?_⟩
 ·have hp:W6 c<c:=by unfold W6;omega
  unfold Nah
  rw [old c (by omega),old (W6 c) (by omega)]
  exact h c h0 (by omega)
 ·unfold W6 at hpc;omega
theorem A4s.down {l:List QE} {m:Nat} (h:A4s l (m+1)) (hm:m<l.length):Sink (swp l 0 m) m 0:=by
 have sw:=A6s (l:=l) (i:=0) (j:=m) (by omega) (by omega)
 refine ⟨fun c h0 hc hne=>?_,fun c h0 hc hpc h00=>by omega⟩
 have hp:W6 c<c:=by unfold W6;omega
 unfold Nah
 rw [sw c,sw (W6 c),if_neg (by omega),if_neg (by omega),if_neg (by omega),if_neg hne]
 exact h c h0 (by omega)
end Go.Ab
namespace Go.Proofs.YtbajhapmlfbelaaGreat
open Go Go.Ab
attribute [local irreducible] upd del
def A6Q (x:QE):AV:=.agg [eI x.1,eI x.2]
def A2g (st:St) (b:Nat) (l:List QE):Prop:=∃ f,st b=some ⟨293,2,l.length,f⟩∧∀ k,k<l.length→f k=A6Q (at_ l k)
theorem A9s (b:Nat) (l:List QE) (n i j:Nat) (st:St) (h:A2g st b l) (hn:n≤l.length) (hi:i<n) (hj:j<n) :
  S P 370 [.own 2 b 0 n,eI i,eI j] st fun v st'=>v=.bool (H7 (at_ l i) (at_ l j))∧st'=st:=by
 obtain ⟨f,hst,hf⟩:=h
 refine A7 [] C0 mixed Tryz.func370 (by rfl) rfl rfl rfl ?_;conv=>whnf
 refine ⟨[],[],[0,1,2,3,4,5,6,7,8,9,10,11,12,13,14,15,16,17,18,19,20,21,22,23,24,25,26,27,28,29,30,31,32,33,34,35,36,37],by kernel_rfl,?_⟩;conv=>whnf
 have fi:f (0+(i:Int).toNat)=A6Q (at_ l i):=by rw [Nat.zero_add];exact hf i (by omega)
 have fj:f (0+(j:Int).toNat)=A6Q (at_ l j):=by rw [Nat.zero_add];exact hf j (by omega)
 have li:0+(i:Int).toNat<l.length:=by omega
 have lj:0+(j:Int).toNat<l.length:=by omega
 refine ⟨rfl,⟨by omega,by omega⟩,?_⟩;conv=>whnf
 refine E9 hst rfl li fi ?_;conv=>whnf
 refine ⟨rfl,⟨by omega,by omega⟩,?_⟩;conv=>whnf
 refine E9 hst rfl lj fj ?_;conv=>whnf
 unfold H7
 refine C4 (fun h1=>?_) (fun h1=>?_)<;>rw [h1]
 ·conv=>whnf
  exact ⟨rfl,rfl⟩
 conv=>whnf
 refine ⟨rfl,⟨by omega,by omega⟩,?_⟩;conv=>whnf
 refine E9 hst rfl li fi ?_;conv=>whnf
 refine ⟨rfl,⟨by omega,by omega⟩,?_⟩;conv=>whnf
 refine E9 hst rfl lj fj ?_;conv=>whnf
 refine C4 (fun h2=>?_) (fun h2=>?_)<;>rw [h2]
 ·conv=>whnf
  refine ⟨rfl,⟨by omega,by omega⟩,?_⟩;conv=>whnf
  refine E9 hst rfl li fi ?_;conv=>whnf
  refine ⟨rfl,⟨by omega,by omega⟩,?_⟩;conv=>whnf
  refine E9 hst rfl lj fj ?_;conv=>whnf
  exact ⟨rfl,rfl⟩
 ·conv=>whnf
  exact ⟨rfl,rfl⟩
theorem len_S (b n:Nat) (st:St):S P 369 [.own 2 b 0 n] st fun v st'=>v=eI n∧st'=st:=by
 refine A7 [] C0 mixed Tryz.func369 (by rfl) rfl rfl rfl ?_;conv=>whnf
 exact ⟨rfl,rfl⟩
theorem B6r (b:Nat) (l:List QE) (n i j:Nat) (st:St) (h:A2g st b l) (hn:n≤l.length) (hi:i<n) (hj:j<n) :
  S P 371 [.own 2 b 0 n,eI i,eI j] st fun v st'=>v=.tuple []∧A2g st' b (swp l i j)∧∀ c,c≠b→st' c=st c:=by
 obtain ⟨f,hst,hf⟩:=h
 refine A7 [] C0 mixed Tryz.func371 (by rfl) rfl rfl rfl ?_;conv=>whnf
 have fi:f (0+(i:Int).toNat)=A6Q (at_ l i):=by rw [Nat.zero_add];exact hf i (by omega)
 have fj:f (0+(j:Int).toNat)=A6Q (at_ l j):=by rw [Nat.zero_add];exact hf j (by omega)
 have li:0+(i:Int).toNat<l.length:=by omega
 have lj:0+(j:Int).toNat<l.length:=by omega
 have ei:0+(i:Int).toNat=i:=by omega
 have ej:0+(j:Int).toNat=j:=by omega
 have hfj:G6 f (0+(i:Int).toNat) (M9 (A6Q (at_ l i)) 0 (cellsOf (A6Q (at_ l j)))) (0+(j:Int).toNat)=A6Q (at_ l j):=by
  by_cases h:j=i
  ·subst h;rw [A5];rfl
  ·rw [F4 (by omega)];exact fj
 refine ⟨[13,15],[],[0,1,2,3,4,5,6,7,8,9,10,11,12,13,14,15],by kernel_rfl,?_⟩;conv=>whnf
 refine ⟨rfl,⟨by omega,by omega⟩,?_⟩;conv=>whnf
 refine E9 hst rfl lj fj ?_;conv=>whnf
 refine ⟨rfl,⟨by omega,by omega⟩,?_⟩;conv=>whnf
 refine E9 hst rfl li fi ?_;conv=>whnf
 refine ⟨rfl,⟨by omega,by omega⟩,?_⟩;conv=>whnf
 refine J7 hst rfl li fi (by rfl) ?_;conv=>whnf
 refine ⟨rfl,⟨by omega,by omega⟩,?_⟩;conv=>whnf
 refine J7 (v:=A6Q (at_ l j)) (A0 ..) rfl lj hfj (by rfl) ?_;conv=>whnf
 refine ⟨rfl,⟨_,by rw [A0,B3d],fun k hk=>?_⟩,fun c hc=>by rw [A9 hc,A9 hc]⟩
 rw [B3d] at hk
 rw [A6s (by omega) (by omega)]
 by_cases h1:k=j
 ·subst h1
  rw [if_pos rfl,ej,A5];rfl
 ·rw [if_neg h1,F4 (by omega)]
  by_cases h2:k=i
  ·subst h2
   rw [if_pos rfl,ei,A5];rfl
  ·rw [if_neg h2,F4 (by omega)];exact hf k hk
def A3z (st:St) (q:Nat) (sv:AV):Prop:=∃ f,st q=some ⟨289,1,1,f⟩∧f 0=.agg [sv]
abbrev hI (q:Nat):AV:=.iface 291 (.optr 1 q 0 0)
theorem A3z.frame {st st':St} {q b:Nat} {sv:AV} (h:A3z st q sv) (hqb:q≠b) (hf:∀ c,c≠b→st' c=st c):A3z st' q sv:=by
 obtain ⟨f,h1,h2⟩:=h
 exact ⟨f,by rw [hf q hqb];exact h1,h2⟩
theorem C8G (j:Nat) (hj:j<4611686018427387904):IntKind.i64.wrap ((IntKind.i64.wrap ((j:Int) - 1)).tdiv 2)=((W6 j:Nat):Int):=by
 rw [A8 (x:=(j:Int) - 1) (by omega) (by omega)]
 unfold W6
 rcases Nat.eq_zero_or_pos j with e | e
 ·subst e;rfl
 ·rw [Int.tdiv_eq_ediv_of_nonneg (by omega),A8 (by omega) (by omega)];omega
theorem C5n (q b:Nat) (l:List QE) (j:Nat) (st:St) (hq:A3z st q (.own 2 b 0 l.length)) (hqb:q≠b) (he:A2g st b l) (hr:Ab.Rise l l.length j) (hj:j<l.length) (hl:l.length<4611686018427387904) :
  S P 283 [hI q,eI j] st fun v st'=>v=.tuple []∧∃ l',l'.Perm l∧A4s l' l.length∧A2g st' b l'∧∀ c,c≠b→st' c=st c:=by
 refine A7 [] C0 mixed Tryz.func283 (by rfl) rfl rfl rfl ?_;conv=>whnf
 refine ⟨[0,1],fun m vs st'=>∃ (j:Nat) (l':List QE),l'.Perm l∧A2g st' b l'∧(∀ c,c≠b→st' c=st c)∧Ab.Rise l' l.length j∧j<l.length∧m=j∧vs=[hI q,eI j],?_,?_⟩
 ·conv=>whnf
  exact ⟨_,j,l,List.Perm.refl _,he,fun c _=>rfl,hr,hj,rfl,rfl⟩
 ·clear hr hj he
  rintro j vs st' ⟨_,l',hp,he,hfr,hr,hj,rfl,rfl⟩
  have hlen:l'.length=l.length:=hp.length_eq
  obtain ⟨f,hqs,hq0⟩:=hq.frame hqb hfr
  have hpj:W6 j≤j:=by unfold W6;omega
  conv=>whnf
  rw [C8G j (by omega)]
  refine C4 (fun h1=>?_) (fun h1=>?_)<;>rw [h1]
  ·have:j=0:=by
    have:=of_decide_eq_true h1
    unfold W6 at this;omega
   conv=>whnf
   exact ⟨rfl,l',hp,hr.done (.inl this),he,hfr⟩
  ·have hj0:0<j:=by
    rcases Nat.eq_zero_or_pos j with e | e
    ·subst e;cases h1
    ·exact e
   conv=>whnf
   refine E9 hqs rfl (by omega) hq0 ?_;conv=>whnf
   refine B3 (A9s b l' l.length j (W6 j) _ he (by omega) (by omega) (by omega)) ?_;conv=>whnf
   refine C4 (fun h2=>?_) (fun h2=>?_)<;>rw [h2]
   ·conv=>whnf
    exact ⟨rfl,l',hp,hr.done (.inr (by have:=h2;simp only [Bool.not_eq_true'] at this;exact this)),he,hfr⟩
   ·have h2':H7 (at_ l' j) (at_ l' (W6 j))=true:=by have:=h2;simp only [Bool.not_eq_false'] at this;exact this
    have hlt:W6 j<j:=by unfold W6;omega
    conv=>whnf
    refine E9 hqs rfl (by omega) hq0 ?_;conv=>whnf
    refine call (B6r b l' l.length (W6 j) j _ he (by omega) (by omega) (by omega)) (fun v st'' hv=>?_)
    obtain ⟨rfl,he',hfr'⟩:=hv
    conv=>whnf
    refine ⟨rfl,?_⟩;conv=>whnf
    exact ⟨W6 j,hlt,W6 j,swp l' (W6 j) j,(B0p (by omega) (by omega)).trans hp,he',fun c hc=>(hfr' c hc).trans (hfr c hc),hr.step (by omega) hj hj0 h2',by omega,rfl,rfl⟩
theorem j1W (i:Nat) (hi:i<2305843009213693952):IntKind.i64.wrap (IntKind.i64.wrap (2 * (i:Int))+1)=((2 * i+1:Nat):Int):=by
 rw [A8 (x:=2 * (i:Int)) (by omega) (by omega),A8 (by omega) (by omega)];omega
theorem C2r (q b:Nat) (l:List QE) (n m:Nat) (st:St) (hq:A3z st q (.own 2 b 0 n)) (hqb:q≠b) (he:A2g st b l) (hs:Ab.Sink l m 0) (hmn:m≤n) (hn:n≤l.length) (hl:l.length<2305843009213693952) :
  S P 284 [hI q,eI 0,eI m] st fun v st'=>(∃ x,v=.bool x)∧∃ l',l'.Perm l∧(∀ k,m≤k→at_ l' k=at_ l k)∧A4s l' m∧A2g st' b l'∧∀ c,c≠b→st' c=st c:=by
 refine A7 [] C0 mixed Tryz.func284 (by rfl) rfl rfl rfl ?_;conv=>whnf
 refine ⟨[0,1,2,7],fun t vs st'=>∃ (i:Nat) (l':List QE),l'.Perm l∧(∀ k,m≤k→at_ l' k=at_ l k)∧A2g st' b l'∧(∀ c,c≠b→st' c=st c)∧Ab.Sink l' m i∧i≤l.length∧t=l.length - i∧vs=[hI q,eI 0,eI m,eI i],?_,?_⟩
 ·conv=>whnf
  exact ⟨_,0,l,List.Perm.refl _,fun _ _=>rfl,he,fun c _=>rfl,hs,Nat.zero_le _,rfl,rfl⟩
 ·clear hs he
  rintro t vs st' ⟨i,l',hp,hk,he,hfr,hs,hi,rfl,rfl⟩
  have hlen:l'.length=l.length:=hp.length_eq
  obtain ⟨f,hqs,hq0⟩:=hq.frame hqb hfr
  have kid:∀ c,0<c→(W6 c=i↔c=2 * i+1∨c=2 * i+2):=fun c hc=>by unfold W6;omega
  conv=>whnf
  rw [j1W i (by omega)]
  refine C4 (fun h1=>?_) (fun h1=>?_)<;>rw [h1]<;>simp only [decide_eq_true_eq,decide_eq_false_iff_not] at h1
  ·conv=>whnf
   exact ⟨⟨_,rfl⟩,l',hp,hk,hs.done (fun c hc0 hcm hpc=>by have:=(kid c hc0).1 hpc;omega),he,hfr⟩
  have him:2 * i+1<m:=by omega
  conv=>whnf
  have w2:IntKind.i64.wrap (((2 * i+1:Nat):Int)+1)=((2 * i+2:Nat):Int):=by rw [A8 (by omega) (by omega)];omega
  rw [w2]
  -- behind the choice of a child
  have tail:∀ (j:Nat),0<j→j<m→W6 j=i→(∀ c,0<c→c<m→W6 c=i→Nah l' c j)→∀ (K:KK),(∀ v st'' l'',v=.tuple []→l''.Perm l→(∀ k,m≤k→at_ l'' k=at_ l k)→A2g st'' b l''→(∀ c,c≠b→st'' c=st c)→H7 (at_ l' j) (at_ l' i)=true→Ab.Sink l'' m j→K v st'')→H7 (at_ l' j) (at_ l' i)=true→A1B P 371 [.own 2 b 0 n,eI i,eI j] st' K:=by
   intro j hj0 hjm hpj hbest K hK hpr
   have hij:i<j:=by rw [←hpj];unfold W6;omega
   refine call (B6r b l' n i j _ he (by omega) (by omega) (by omega)) (fun v st'' hv=>?_)
   obtain ⟨rfl,he',hfr'⟩:=hv
   refine hK _ _ (swp l' i j) rfl ((B0p (by omega) (by omega)).trans hp) (fun k hkm=>?_) he' (fun c hc=>(hfr' c hc).trans (hfr c hc)) hpr (hs.step (by omega) hjm hj0 hpj hpr hbest)
   rw [A6s (by omega) (by omega),if_neg (by omega),if_neg (by omega)];exact hk k hkm
  refine C4 (fun h3=>?_) (fun h3=>?_)<;>rw [h3]<;>simp only [decide_eq_true_eq,decide_eq_false_iff_not] at h3
  ·conv=>whnf
   refine E9 hqs rfl (by omega) hq0 ?_;conv=>whnf
   refine B3 (A9s b l' n (2 * i+2) (2 * i+1) _ he (by omega) (by omega) (by omega)) ?_;conv=>whnf
   refine C4 (fun h4=>?_) (fun h4=>?_)<;>rw [h4]
   ·have hbest:∀ c,0<c→c<m→W6 c=i→Nah l' c (2 * i+2):=fun c hc0 hcm hpc=>by
     rcases (kid c hc0).1 hpc with e | e
     ·subst e;exact A0D h4
     ·subst e;exact A1X _
    conv=>whnf
    refine E9 hqs rfl (by omega) hq0 ?_;conv=>whnf
    refine B3 (A9s b l' n (2 * i+2) i _ he (by omega) (by omega) (by omega)) ?_;conv=>whnf
    refine C4 (fun h5=>?_) (fun h5=>?_)<;>rw [h5]
    ·conv=>whnf
     exact ⟨⟨_,rfl⟩,l',hp,hk,hs.done (fun c hc0 hcm hpc=>A0B (hbest c hc0 hcm hpc) (show Nah l' (2 * i+2) i by have:=h5;simp only [Bool.not_eq_true'] at this;exact this)),he,hfr⟩
    ·conv=>whnf
     refine E9 hqs rfl (by omega) hq0 ?_;conv=>whnf
     refine tail (2 * i+2) (by omega) (by omega) ((kid _ (by omega)).2 (.inr rfl)) hbest _ (fun v st'' l'' hv hp' hk' he' hfr' hpr hs'=>?_) (by have:=h5;simp only [Bool.not_eq_false'] at this;exact this)
     subst hv;conv=>whnf
     refine ⟨rfl,?_⟩;conv=>whnf
     exact ⟨l.length - (2 * i+2),by omega,2 * i+2,l'',hp',hk',he',hfr',hs',by omega,rfl,rfl⟩
   ·have hbest:∀ c,0<c→c<m→W6 c=i→Nah l' c (2 * i+1):=fun c hc0 hcm hpc=>by
     rcases (kid c hc0).1 hpc with e | e
     ·subst e;exact A1X _
     ·subst e;exact h4
    conv=>whnf
    refine E9 hqs rfl (by omega) hq0 ?_;conv=>whnf
    refine B3 (A9s b l' n (2 * i+1) i _ he (by omega) (by omega) (by omega)) ?_;conv=>whnf
    refine C4 (fun h5=>?_) (fun h5=>?_)<;>rw [h5]
    ·conv=>whnf
     exact ⟨⟨_,rfl⟩,l',hp,hk,hs.done (fun c hc0 hcm hpc=>A0B (hbest c hc0 hcm hpc) (show Nah l' (2 * i+1) i by have:=h5;simp only [Bool.not_eq_true'] at this;exact this)),he,hfr⟩
    ·conv=>whnf
     refine E9 hqs rfl (by omega) hq0 ?_;conv=>whnf
     refine tail (2 * i+1) (by omega) (by omega) ((kid _ (by omega)).2 (.inl rfl)) hbest _ (fun v st'' l'' hv hp' hk' he' hfr' hpr hs'=>?_) (by have:=h5;simp only [Bool.not_eq_false'] at this;exact this)
     subst hv;conv=>whnf
     refine ⟨rfl,?_⟩;conv=>whnf
     exact ⟨l.length - (2 * i+1),by omega,2 * i+1,l'',hp',hk',he',hfr',hs',by omega,rfl,rfl⟩
  ·have hbest:∀ c,0<c→c<m→W6 c=i→Nah l' c (2 * i+1):=fun c hc0 hcm hpc=>by
    rcases (kid c hc0).1 hpc with e | e
    ·subst e;exact A1X _
    ·omega
   conv=>whnf
   refine E9 hqs rfl (by omega) hq0 ?_;conv=>whnf
   refine B3 (A9s b l' n (2 * i+1) i _ he (by omega) (by omega) (by omega)) ?_;conv=>whnf
   refine C4 (fun h5=>?_) (fun h5=>?_)<;>rw [h5]
   ·conv=>whnf
    exact ⟨⟨_,rfl⟩,l',hp,hk,hs.done (fun c hc0 hcm hpc=>A0B (hbest c hc0 hcm hpc) (show Nah l' (2 * i+1) i by have:=h5;simp only [Bool.not_eq_true'] at this;exact this)),he,hfr⟩
   ·conv=>whnf
    refine E9 hqs rfl (by omega) hq0 ?_;conv=>whnf
    refine tail (2 * i+1) (by omega) (by omega) ((kid _ (by omega)).2 (.inl rfl)) hbest _ (fun v st'' l'' hv hp' hk' he' hfr' hpr hs'=>?_) (by have:=h5;simp only [Bool.not_eq_false'] at this;exact this)
    subst hv;conv=>whnf
    refine ⟨rfl,?_⟩;conv=>whnf
    exact ⟨l.length - (2 * i+1),by omega,2 * i+1,l'',hp',hk',he',hfr',hs',by omega,rfl,rfl⟩
theorem A2g.frame {st st':St} {b c:Nat} {l:List QE} (h:A2g st b l) (hc:c≠b) (hf:∀ a,a≠c→st' a=st a):A2g st' b l:=by
 obtain ⟨f,h1,h2⟩:=h
 exact ⟨f,by rw [hf b (fun e=>hc e.symm)];exact h1,h2⟩
theorem C4h (q b:Nat) (l:List QE) (n:Nat) (st:St) (hq:A3z st q (.own 2 b 0 (n+1))) (hqb:q≠b) (he:A2g st b l) (hn:n<l.length) (hl:l.length<2305843009213693952) :
  S P 372 [.optr 1 q 0 0] st fun v st'=>v=.iface 293 (A6Q (at_ l n))∧A3z st' q (.own 2 b 0 n)∧∀ c,c≠q→st' c=st c:=by
 obtain ⟨fq,hqs,hq0⟩:=hq
 obtain ⟨f,hst,hf⟩:=he
 refine A7 [4] C0 mixed Tryz.func372 (by rfl) rfl rfl rfl ?_;conv=>whnf
 refine E9 hqs rfl (by omega) hq0 ?_;conv=>whnf
 have w:IntKind.i64.wrap (((n+1:Nat):Int) - 1)=(n:Int):=by rw [A8 (by omega) (by omega)];omega
 rw [w]
 refine E9 hqs rfl (by omega) hq0 ?_;conv=>whnf
 refine ⟨rfl,⟨by omega,by omega⟩,?_⟩;conv=>whnf
 refine E9 hst rfl (by omega) (v:=A6Q (at_ l n)) (by rw [show 0+(n:Int).toNat=n by omega];exact hf n hn) ?_;conv=>whnf
 refine E9 hqs rfl (by omega) hq0 ?_;conv=>whnf
 refine ⟨rfl,⟨by omega,by omega,by omega⟩,.inl rfl,?_⟩;conv=>whnf
 refine J7 hqs rfl (by omega) hq0 (by rfl) ?_;conv=>whnf
 refine ⟨rfl,⟨_,A0 ..,?_⟩,fun c hc=>by rw [A9 hc]⟩
 rw [A5]
 show AV.agg [AV.own 2 b _ _]=_
 congr 3<;>simp
theorem C2l (q:Nat) (sv:AV) (l:List QE) (x:QE) (st st0:St) (hq:A3z st q sv) (h0:st0 q=none) (hsup:F3 st0 st) (hl:l.length<2305843009213)
  (hs:(l=[]∧sv=.emp)∨∃ b,q≠b∧st0 b=none∧sv=.own 2 b 0 l.length∧A2g st b l) :
  S P 373 [.optr 1 q 0 0,.iface 293 (A6Q x)] st fun v st'=>v=.tuple []∧∃ b,q≠b∧st0 b=none∧A3z st' q (.own 2 b 0 (l.length+1))∧A2g st' b (l++[x])∧F3 st0 st':=by
 obtain ⟨fq,hqs,hq0⟩:=hq
 refine A7 [] C0 mixed Tryz.func373 (by rfl) rfl rfl rfl ?_;conv=>whnf
 intro c hc
 have hcq:q≠c:=fun e=>by subst e;rw [hqs] at hc;cases hc
 conv=>whnf
 refine J7 (A0 ..) rfl (by omega) rfl (by rfl) ?_;conv=>whnf
 refine ⟨[6,8],[],[0,1,2,3,4,5,6,7,8],by kernel_rfl,?_⟩;conv=>whnf
 refine E9 (by rw [A9 hcq,A9 hcq];exact hqs) rfl (by omega) hq0 ?_;conv=>whnf
 have hc0:st0 c=none:=hsup.none hc
 rcases hs with ⟨rfl,rfl⟩ | ⟨b,hqb,hb0,rfl,f,hst,hf⟩
 ·conv=>whnf
  refine E9 (A0 ..) rfl (by omega) rfl ?_;conv=>whnf
  refine ⟨_,⟨rfl,rfl⟩,?_⟩;conv=>whnf
  refine apE rfl rfl rfl rfl (A6p ..) (by show 1 * 16≤_;omega) (fun h=>absurd h (by omega)) (fun _ b hb=>?_)
  have hbq:b≠q:=fun e=>by subst e;rw [A9 hcq,A9 hcq,hqs] at hb;cases hb
  have hbc:b≠c:=fun e=>by subst e;rw [A0] at hb;cases hb
  have hb':st b=none:=by rw [A9 hbc,A9 hbc] at hb;exact hb
  conv=>whnf
  refine J7 (by rw [A9 hbq.symm,A9 hcq,A9 hcq];exact hqs) rfl (by omega) hq0 (by rfl) ?_;conv=>whnf
  refine ⟨rfl,b,hbq.symm,hsup.none hb',⟨_,A0 ..,by rw [A5];rfl⟩,⟨_,by rw [A9 hbq,A0];rfl,fun k hk=>?_⟩,?_⟩
  ·have:k=0:=by simpa using hk
   subst this;rfl
  ·exact (((hsup.over hc0).over hc0).over (hsup.none hb')).over h0
 ·have hbc:b≠c:=fun e=>by subst e;rw [hst] at hc;cases hc
  conv=>whnf
  refine E9 (A0 ..) rfl (by omega) rfl ?_;conv=>whnf
  refine ⟨_,⟨rfl,rfl⟩,?_⟩;conv=>whnf
  refine apO (q:=C4y) (n:=l.length) rfl rfl rfl rfl (A6p ..) (by rw [A9 hbc,A9 hbc];exact hst) rfl rfl rfl (by show (l.length+1) * 16≤_;omega) (fun h=>absurd h (by omega)) (fun _ b' hb'=>?_)
  have hb'q:b'≠q:=fun e=>by
   subst e
   rcases hb' with e | e
   ·exact hqb e
   ·rw [A9 hcq,A9 hcq,hqs] at e;cases e
  have hb'0:st0 b'=none:=by
   rcases hb' with rfl | e
   ·exact hb0
   ·by_cases hbc':b'=c
    ·subst hbc';exact hc0
    ·rw [A9 hbc',A9 hbc'] at e;exact hsup.none e
  conv=>whnf
  refine J7 (by rw [A9 hb'q.symm];unfold del;rw [if_neg hqb,A9 hcq,A9 hcq];exact hqs) rfl (by omega) hq0 (by rfl) ?_;conv=>whnf
  refine ⟨rfl,b',hb'q.symm,hb'0,⟨_,A0 ..,by rw [A5];rfl⟩,⟨_,by rw [A9 hb'q,A0,List.length_append];rfl,fun k hk=>?_⟩,?_⟩
  ·rw [List.length_append] at hk
   simp only [List.length_cons,List.length_nil] at hk
   unfold at_
   by_cases hkl:k<l.length
   ·simp only [hkl,if_true]
    rw [hf k hkl,List.getD_eq_getElem?_getD,List.getElem?_append_left hkl,←List.getD_eq_getElem?_getD]
   ·have:k=l.length:=by omega
    subst this
    simp only [Nat.lt_irrefl,if_false,Nat.sub_self]
    rw [show (l++[x]).getD l.length default=x by simp [List.getD_eq_getElem?_getD]]
    rfl
  ·exact ((((hsup.over hc0).over hc0).del hb0).over hb'0).over h0
theorem C2s (q:Nat) (sv:AV) (l:List QE) (x:QE) (st st0:St) (hq:A3z st q sv) (h0:st0 q=none) (hsup:F3 st0 st) (hl:l.length<2305843009213) (hh:A4s l l.length)
  (hs:(l=[]∧sv=.emp)∨∃ b,q≠b∧st0 b=none∧sv=.own 2 b 0 l.length∧A2g st b l) :
  S P 236 [hI q,.iface 293 (A6Q x)] st fun v st'=>v=.tuple []∧∃ b l',q≠b∧st0 b=none∧l'.Perm (l++[x])∧A4s l' l'.length∧A3z st' q (.own 2 b 0 l'.length)∧A2g st' b l'∧F3 st0 st':=by
 refine A7 [] C0 mixed Tryz.func236 (by rfl) rfl rfl rfl ?_;conv=>whnf
 refine call (C2l q sv l x st st0 hq h0 hsup hl hs) (fun v st' hv=>?_)
 obtain ⟨rfl,b,hqb,hb0,⟨fq,hqs,hq0⟩,he,hsup'⟩:=hv
 conv=>whnf
 refine E9 hqs rfl (by omega) hq0 ?_;conv=>whnf
 refine B3 (len_S b (l.length+1) _) ?_;conv=>whnf
 have w:IntKind.i64.wrap (((l.length+1:Nat):Int) - 1)=(l.length:Int):=by rw [A8 (by omega) (by omega)];omega
 rw [w]
 have e1:(l++[x]).length=l.length+1:=by simp
 have hr:Ab.Rise (l++[x]) (l++[x]).length l.length:=by rw [e1];exact hh.up x rfl
 refine call (C5n q b (l++[x]) l.length _ (by rw [e1];exact ⟨fq,hqs,hq0⟩) hqb he hr (by omega) (by omega)) (fun v st'' hv=>?_)
 obtain ⟨rfl,l',hp,hh',he',hfr⟩:=hv
 conv=>whnf
 have el:l'.length=(l++[x]).length:=hp.length_eq
 refine ⟨rfl,b,l',hqb,hb0,hp,by rw [el];exact hh',?_,he',fun c y hc=>?_⟩
 ·rw [el,e1];exact A3z.frame ⟨fq,hqs,hq0⟩ hqb hfr
 ·rw [hfr c (fun e=>by subst e;rw [hb0] at hc;cases hc)];exact hsup' c y hc
theorem B8U {l l':List QE} {m:Nat} (hm:m<l.length) (hp:l'.Perm l) (hk:∀ k,m≤k→at_ l' k=at_ (swp l 0 m) k):(at_ l 0::l'.take m).Perm (l.take (m+1)):=by
 have hlen:l'.length=l.length:=hp.length_eq
 have e1:l'.drop m=at_ l 0::l.drop (m+1):=by
  refine List.ext_getElem? fun i=>?_
  rw [List.getElem?_drop]
  have hi:=hk (m+i) (by omega)
  rw [A6s (by omega) hm] at hi
  rcases Nat.lt_or_ge (m+i) l.length with h | h
  ·have a1:l'[m+i]?=some (at_ l' (m+i)):=by
    unfold at_;rw [List.getD_eq_getElem?_getD,List.getElem?_eq_getElem (by omega)];rfl
   rw [a1,hi]
   cases i with
   | zero=>simp
   | succ i =>
    rw [if_neg (by omega),if_neg (by omega),List.getElem?_cons_succ,List.getElem?_drop]
    unfold at_
    rw [List.getD_eq_getElem?_getD,show m+(i+1)=m+1+i by omega,List.getElem?_eq_getElem (by omega)];rfl
  ·rw [List.getElem?_eq_none (by omega)]
   cases i with
   | zero=>omega
   | succ i=>rw [List.getElem?_cons_succ,List.getElem?_drop,List.getElem?_eq_none (by omega)]
 have h1:(l'.take m++(at_ l 0::l.drop (m+1))).Perm (l.take (m+1)++l.drop (m+1)):=by
  rw [←e1,List.take_append_drop,List.take_append_drop];exact hp
 have h2:((at_ l 0::l'.take m)++l.drop (m+1)).Perm (l.take (m+1)++l.drop (m+1)):=by
  refine List.Perm.trans ?_ h1
  exact List.perm_middle.symm
 exact (List.perm_append_right_iff _).1 h2
theorem C4j (q b:Nat) (l:List QE) (n:Nat) (st:St) (hq:A3z st q (.own 2 b 0 (n+1))) (hqb:q≠b) (he:A2g st b l) (hh:A4s l (n+1)) (hn:n<l.length) (hl:l.length<2305843009213693952) :
  S P 237 [hI q] st fun v st'=>v=.iface 293 (A6Q (at_ l 0))∧∃ l',l'.length=l.length∧(at_ l 0::l'.take n).Perm (l.take (n+1))∧A4s l' n∧A3z st' q (.own 2 b 0 n)∧A2g st' b l'∧∀ c,c≠q→c≠b→st' c=st c:=by
 obtain ⟨fq,hqs,hq0⟩:=hq
 refine A7 [] C0 mixed Tryz.func237 (by rfl) rfl rfl rfl ?_;conv=>whnf
 refine E9 hqs rfl (by omega) hq0 ?_;conv=>whnf
 refine B3 (len_S b (n+1) _) ?_;conv=>whnf
 have w:IntKind.i64.wrap (((n+1:Nat):Int) - 1)=(n:Int):=by rw [A8 (by omega) (by omega)];omega
 rw [w]
 refine E9 hqs rfl (by omega) hq0 ?_;conv=>whnf
 refine call (B6r b l (n+1) 0 n _ he (by omega) (by omega) (by omega)) (fun v st1 hv=>?_)
 obtain ⟨rfl,he1,hfr1⟩:=hv
 have hq1:A3z st1 q (.own 2 b 0 (n+1)):=A3z.frame ⟨fq,hqs,hq0⟩ hqb hfr1
 have hd:Ab.Sink (swp l 0 n) n 0:=hh.down hn
 have hsl:(swp l 0 n).length=l.length:=B3d l 0 n
 conv=>whnf
 refine call (C2r q b (swp l 0 n) (n+1) n _ hq1 hqb he1 hd (by omega) (by omega) (by omega)) (fun v st2 hv=>?_)
 obtain ⟨⟨y,rfl⟩,l',hp,hk,hh',he2,hfr2⟩:=hv
 have hl':l'.length=l.length:=hp.length_eq.trans hsl
 have hq2:A3z st2 q (.own 2 b 0 (n+1)):=hq1.frame hqb hfr2
 have htop:at_ l' n=at_ l 0:=by rw [hk n (Nat.le_refl _),A6s (by omega) hn,if_pos rfl]
 conv=>whnf
 refine call (C4h q b l' n _ hq2 hqb he2 (by omega) (by omega)) (fun v st3 hv=>?_)
 obtain ⟨rfl,hq3,hfr3⟩:=hv
 rw [htop];conv=>whnf
 refine ⟨rfl,l',hl',B8U hn (hp.trans (B0p (by omega) hn)) hk,hh',hq3,he2.frame hqb hfr3,fun c h1 h2=>by rw [hfr3 c h1,hfr2 c h2,hfr1 c h2]⟩
structure QSt (st0:St) (q:Nat) (fresh:Bool) (es:List QE) (st:St):Prop where
 new:st0 q=none
 sup:F3 st0 st
 has:∃ sv,A3z st q sv∧((es=[]∧sv=.emp)∨∃ b l n,q≠b∧st0 b=none∧sv=.own 2 b 0 n∧n≤l.length∧l.length<2305843009213∧A4s l n∧A2g st b l∧(l.take n).Perm es∧(fresh=true→n=l.length))
theorem QSt.perm {st0 st:St} {q:Nat} {f:Bool} {es es':List QE} (h:QSt st0 q f es st) (hp:es.Perm es'):QSt st0 q f es' st:=by
 obtain ⟨h1,h2,sv,hq,h3⟩:=h
 refine ⟨h1,h2,sv,hq,?_⟩
 rcases h3 with ⟨rfl,hs⟩ | ⟨b,l,n,a1,a2,a3,a4,a5,a6,a7,a8,a9⟩
 ·exact .inl ⟨List.Perm.eq_nil hp.symm,hs⟩
 ·exact .inr ⟨b,l,n,a1,a2,a3,a4,a5,a6,a7,a8.trans hp,a9⟩
theorem B2J (st:St):S P 146 [] st fun v st'=>∃ q,v=.optr 1 q 0 0∧QSt st q true [] st':=by
 refine A7 [] C0 mixed Tryz.func146 (by rfl) rfl rfl rfl ?_;conv=>whnf
 intro q hq;conv=>whnf
 exact ⟨q,rfl,hq,(F3.refl st).upd hq,.emp,⟨_,A0 ..,rfl⟩,.inl ⟨rfl,rfl⟩⟩
theorem A8K (st0:St) (q:Nat) (es:List QE) (r k:Int) (st:St) (h:QSt st0 q true es st) (hl:es.length<2305843009212):S P 147 [.optr 1 q 0 0,eI r,eI k] st fun v st'=>v=.tuple []∧QSt st0 q true (es++[(r,k)]) st':=by
 obtain ⟨h1,h2,sv,hq,h3⟩:=h
 refine A7 [] C0 mixed Tryz.func147 (by rfl) rfl rfl rfl ?_;conv=>whnf
 have hex:∃ l:List QE,l.Perm es∧A4s l l.length∧((l=[]∧sv=.emp)∨∃ b,q≠b∧st0 b=none∧sv=.own 2 b 0 l.length∧A2g st b l):=by
  rcases h3 with ⟨rfl,hs⟩ | ⟨b,l,n,a1,a2,a3,a4,a5,a6,a7,a8,a9⟩
  ·exact ⟨[],List.Perm.refl _,fun c h0 hc=>absurd hc (by simp),.inl ⟨rfl,hs⟩⟩
  ·have e:=a9 rfl
   subst e
   rw [List.take_length] at a8
   exact ⟨l,a8,a6,.inr ⟨b,a1,a2,a3,a7⟩⟩
 obtain ⟨l,hp,hh,hs⟩:=hex
 have hll:l.length=es.length:=hp.length_eq
 refine call (C2s q sv l (r,k) st st0 hq h1 h2 (by omega) hh hs) (fun v st' hv=>?_)
 obtain ⟨rfl,b,l',hqb,hb0,hp',hh',hq',he',hsup'⟩:=hv
 have hl':l'.length=l.length+1:=by rw [hp'.length_eq];simp
 conv=>whnf
 exact ⟨rfl,h1,hsup',_,hq',.inr ⟨b,l',l'.length,hqb,hb0,rfl,Nat.le_refl _,by omega,hh',he',by rw [List.take_length];exact hp'.trans (hp.append_right _),fun _=>rfl⟩⟩
theorem A9T (st0:St) (q:Nat) (f:Bool) (es:List QE) (st:St) (h:QSt st0 q f es st):S P 148 [.optr 1 q 0 0] st fun v st'=>v=eI es.length∧st'=st:=by
 obtain ⟨h1,h2,sv,⟨fq,hqs,hq0⟩,h3⟩:=h
 refine A7 [] C0 mixed Tryz.func148 (by rfl) rfl rfl rfl ?_;conv=>whnf
 rcases h3 with ⟨rfl,rfl⟩ | ⟨b,l,n,a1,a2,rfl,a4,a5,a6,a7,a8,a9⟩
 ·refine E9 hqs rfl (by omega) hq0 ?_;conv=>whnf
  exact ⟨rfl,rfl⟩
 ·refine E9 hqs rfl (by omega) hq0 ?_;conv=>whnf
  refine ⟨?_,rfl⟩
  have:es.length=n:=by rw [←a8.length_eq,List.length_take];omega
  rw [this];rfl
theorem C2K (st0:St) (q:Nat) (f:Bool) (st:St) (h:QSt st0 q f [] st):S P 149 [.optr 1 q 0 0] st fun v st'=>v=.tuple [eI 0,eI 0,.bool false]∧st'=st:=by
 obtain ⟨h1,h2,sv,⟨fq,hqs,hq0⟩,h3⟩:=h
 refine A7 [] C0 mixed Tryz.func149 (by rfl) rfl rfl rfl ?_;conv=>whnf
 rcases h3 with ⟨_,rfl⟩ | ⟨b,l,n,a1,a2,rfl,a4,a5,a6,a7,a8,a9⟩
 ·refine E9 hqs rfl (by omega) hq0 ?_;conv=>whnf
  exact ⟨rfl,rfl⟩
 ·have e:n=0:=by
   have:=a8.length_eq
   rw [List.length_take,List.length_nil] at this;omega
  subst e
  refine E9 hqs rfl (by omega) hq0 ?_;conv=>whnf
  exact ⟨rfl,rfl⟩
theorem A9U (st0:St) (q:Nat) (f:Bool) (x:QE) (es:List QE) (st:St) (h:QSt st0 q f (x::es) st) (htop:∀ y∈es,H7 y x=false):S P 149 [.optr 1 q 0 0] st fun v st'=>v=.tuple [eI x.1,eI x.2,.bool true]∧QSt st0 q false es st':=by
 obtain ⟨h1,h2,sv,hq,h3⟩:=h
 rcases h3 with ⟨h,_⟩ | ⟨b,l,n,a1,a2,rfl,a4,a5,a6,a7,a8,a9⟩
 ·cases h
 have hn:n=es.length+1:=by
  have:=a8.length_eq
  rw [List.length_take,List.length_cons] at this;omega
 subst hn
 have hx:at_ l 0=x:=by
  have m0:at_ l 0∈x::es:=by
   refine a8.subset ?_
   have:(l.take (es.length+1)).getD 0 default=at_ l 0:=by
    unfold at_;rw [List.getD_eq_getElem?_getD,List.getD_eq_getElem?_getD,List.getElem?_take_of_lt (by omega)]
   rw [←this];exact B5 (by rw [List.length_take];omega)
  have hmem:x∈l.take (es.length+1):=a8.symm.subset (List.mem_cons_self ..)
  obtain ⟨k,hk,he⟩:=F2 hmem
  rw [List.length_take] at hk
  have hxk:x=at_ l k:=by
   rw [he];unfold at_;rw [List.getD_eq_getElem?_getD,List.getD_eq_getElem?_getD,List.getElem?_take_of_lt (by omega)]
  have t1:H7 x (at_ l 0)=false:=by rw [hxk];exact a6.top k (by omega)
  rcases List.mem_cons.1 m0 with e | e
  ·exact e
  ·exact A7S (htop _ e) t1
 have hq':=hq
 obtain ⟨fq,hqs,hq0⟩:=hq
 refine A7 [] C0 mixed Tryz.func149 (by rfl) rfl rfl rfl ?_;conv=>whnf
 refine E9 hqs rfl (by omega) hq0 ?_;conv=>whnf
 refine call (C4j q b l es.length st hq' a1 a7 a6 (by omega) (by omega)) (fun v st' hv=>?_)
 obtain ⟨rfl,l',hl',hp',hh',hq3,he3,hfr⟩:=hv
 rw [hx] at hp' ⊢
 have hsup':F3 st0 st':=fun c y hc=>by
  rw [hfr c (fun e=>by subst e;rw [h1] at hc;cases hc) (fun e=>by subst e;rw [a2] at hc;cases hc)];exact h2 c y hc
 conv=>whnf
 intro c hc;conv=>whnf
 refine J7 (A0 ..) rfl (by omega) rfl (by rfl) ?_;conv=>whnf
 refine ⟨[],[],[0,1,2,3,4,5,6],by kernel_rfl,?_⟩;conv=>whnf
 refine E9 (A0 ..) rfl (by omega) rfl ?_;conv=>whnf
 refine E9 (A0 ..) rfl (by omega) rfl ?_;conv=>whnf
 obtain ⟨fq',hqs',hq0'⟩:=hq3
 obtain ⟨fe,hes,hef⟩:=he3
 have hcq:q≠c:=fun e=>by subst e;rw [hqs'] at hc;cases hc
 have hcb:b≠c:=fun e=>by subst e;rw [hes] at hc;cases hc
 have hc0:st0 c=none:=hsup'.none hc
 refine ⟨rfl,h1,(hsup'.over hc0).over hc0,_,⟨fq',by rw [A9 hcq,A9 hcq];exact hqs',hq0'⟩,.inr ⟨b,l',es.length,a1,a2,rfl,by omega,by omega,hh',⟨fe,by rw [A9 hcb,A9 hcb];exact hes,hef⟩,?_,fun e=>by cases e⟩⟩
 exact (List.perm_cons x).1 (hp'.trans a8)
end Go.Proofs.YtbajhapmlfbelaaGreat
