/- Part 17 of the proof: contracts of the functions that the law reaches -/
import Derived.Test.YthdimklenlikgaaGreatDw16
set_option maxRecDepth 100000
set_option linter.unusedVariables false
set_option linter.unusedSimpArgs false
namespace Go.Proofs.YthdimklenlikgaaGreat
open Go Go.Ab
attribute [local irreducible] upd del
abbrev Big:Nat:=9223372036854775807
def R7 (lo hi x:Int):Bool:=decide (x≥lo)&&decide (x≤hi)
def I6 {α : Type} [Inhabited α] (l:List α) (p:Nat→α→Bool):Bool:=(List.range l.length).all fun k=>p k (l.getD k default)
theorem J1 {α : Type} [Inhabited α] {l:List α} {p:Nat→α→Bool} (h:∀ k,k<l.length→p k (l.getD k default)=true):I6 l p=true:=A5s h
theorem S1 {α : Type} [Inhabited α] {l:List α} {p:Nat→α→Bool} {k:Nat} (hk:k<l.length) (h:p k (l.getD k default)=false):I6 l p=false:=A3p hk h
theorem L7 {i:Nat} {q:Nat→Prop} (h:∀ k,k<i→q k) (hi:q i):∀ k,k<i+1→q k:=fun k hk=>by
 rcases Nat.lt_succ_iff_lt_or_eq.1 hk with h' | h'
 ·exact h k h'
 ·rw [h'];exact hi
theorem B2m {α : Type} [Inhabited α] (g : α→D7) (l:List α) (st:St):B2 [.arr 1 l.length (fun k=>eS (g (l.getD k default)))] st [D3 (l.map g)] st:=by
 have e:D3 (l.map g)=.arr 1 l.length (fun k=>eS ((l.map g).getD k default)):=by unfold D3 A7;rw [List.length_map]
 rw [e]
 exact B2.arr fun i hi=>by rw [D8 g l hi]
theorem C4T (x:Int) (st:St):S P 221 [eI x] st fun v st'=>v=.bool (R7 0 100000 x)∧st'=st:=by
 refine A5 [] B7 mixed Tryz.func221 (by rfl) rfl rfl rfl ?_
 repeat' ((conv=>whnf);first  | (refine C3 (fun h=>?_) (fun h=>?_)<;>rw [h]))
 all_goals (conv=>whnf)
 all_goals (refine ⟨?_,rfl⟩;show AV.bool _=AV.bool _;congr 1)
 all_goals (simp only [R7, *,Bool.true_and,Bool.false_and,Bool.and_true,Bool.and_false,Bool.or_true,Bool.or_false,Bool.true_or,Bool.false_or,Bool.not_true,Bool.not_false,Bool.not_not];try rfl)
theorem B2N (x:Int) (st:St):S P 262 [eI x] st fun v st'=>v=.bool (R7 0 10000 x)∧st'=st:=by
 refine A5 [] B7 mixed Tryz.func262 (by rfl) rfl rfl rfl ?_
 repeat' ((conv=>whnf);first  | (refine C3 (fun h=>?_) (fun h=>?_)<;>rw [h]))
 all_goals (conv=>whnf)
 all_goals (refine ⟨?_,rfl⟩;show AV.bool _=AV.bool _;congr 1)
 all_goals (simp only [R7, *,Bool.true_and,Bool.false_and,Bool.and_true,Bool.and_false,Bool.or_true,Bool.or_false,Bool.true_or,Bool.false_or,Bool.not_true,Bool.not_false,Bool.not_not];try rfl)
theorem C3X (x:Int) (st:St):S P 226 [eI x] st fun v st'=>v=.bool (R7 1 9 x)∧st'=st:=by
 refine A5 [] B7 mixed Tryz.func226 (by rfl) rfl rfl rfl ?_
 repeat' ((conv=>whnf);first  | (refine C3 (fun h=>?_) (fun h=>?_)<;>rw [h]))
 all_goals (conv=>whnf)
 all_goals (refine ⟨?_,rfl⟩;show AV.bool _=AV.bool _;congr 1)
 all_goals (simp only [R7, *,Bool.true_and,Bool.false_and,Bool.and_true,Bool.and_false,Bool.or_true,Bool.or_false,Bool.true_or,Bool.false_or,Bool.not_true,Bool.not_false,Bool.not_not];try rfl)
def lineC (x:F0):Bool:=R7 0 100000 x.qty&&R7 0 1000000000 x.price
theorem C3Y (x:F0) (st:St):S P 279 [E4 x] st fun v st'=>v=.bool (lineC x)∧st'=st:=by
 refine A5 [1] B7 mixed Tryz.func279 (by rfl) rfl rfl rfl ?_
 repeat' ((conv=>whnf);first  | (refine C3 (fun h=>?_) (fun h=>?_)<;>rw [h]))
 all_goals (conv=>whnf)
 all_goals (refine ⟨?_,rfl⟩;show AV.bool _=AV.bool _;congr 1)
 all_goals (simp only [lineC,R7, *,Bool.true_and,Bool.false_and,Bool.and_true,Bool.and_false,Bool.or_true,Bool.or_false,Bool.true_or,Bool.false_or,Bool.not_true,Bool.not_false,Bool.not_not];try rfl)
def A8q (x:Ab.Ship):Bool:=R7 0 1000000000 x.fee&&R7 0 10000000000000 x.free
theorem C4u (x:Ab.Ship) (st:St):S P 181 [C3f x] st fun v st'=>v=.bool (A8q x)∧st'=st:=by
 refine A5 [1] B7 mixed Tryz.func181 (by rfl) rfl rfl rfl ?_
 repeat' ((conv=>whnf);first  | (refine C3 (fun h=>?_) (fun h=>?_)<;>rw [h]))
 all_goals (conv=>whnf)
 all_goals (refine ⟨?_,rfl⟩;show AV.bool _=AV.bool _;congr 1)
 all_goals (simp only [A8q,R7, *,Bool.true_and,Bool.false_and,Bool.and_true,Bool.and_false,Bool.or_true,Bool.or_false,Bool.true_or,Bool.false_or,Bool.not_true,Bool.not_false,Bool.not_not];try rfl)
abbrev B3H (p:B1):AV:=.agg (cellsOf (B8 p))
def A7e (p:B1):Bool:=R7 1 10000 p.rate
def A7c (p:B1):Bool:=R7 1 1000000000 p.amount
def A7d (p:B1):Bool:=A7e p&&(R7 1 100 p.buy&&R7 1 100 p.get)
def A0e (x:A1b):Bool:=A0o x.scope&&!(decide (x.count<1)||decide (x.count>100))
theorem B2t (p:B1) (st:St):S P 313 [B3H p] st fun v st'=>v=.bool (A7e p)∧st'=st:=by
 refine A5 [1] B7 mixed Tryz.func313 (by rfl) rfl rfl rfl ?_
 repeat' ((conv=>whnf);first  | (refine C3 (fun h=>?_) (fun h=>?_)<;>rw [h]))
 all_goals (conv=>whnf)
 all_goals (refine ⟨?_,rfl⟩;show AV.bool _=AV.bool _;congr 1)
 all_goals (simp only [A7e,R7, *,Bool.true_and,Bool.false_and,Bool.and_true,Bool.and_false,Bool.or_true,Bool.or_false,Bool.true_or,Bool.false_or,Bool.not_true,Bool.not_false,Bool.not_not];try rfl)
theorem B8h (p:B1) (st:St):S P 314 [B3H p] st fun v st'=>v=.bool (A7c p)∧st'=st:=by
 refine A5 [1] B7 mixed Tryz.func314 (by rfl) rfl rfl rfl ?_
 repeat' ((conv=>whnf);first  | (refine C3 (fun h=>?_) (fun h=>?_)<;>rw [h]))
 all_goals (conv=>whnf)
 all_goals (refine ⟨?_,rfl⟩;show AV.bool _=AV.bool _;congr 1)
 all_goals (simp only [A7c,R7, *,Bool.true_and,Bool.false_and,Bool.and_true,Bool.and_false,Bool.or_true,Bool.or_false,Bool.true_or,Bool.false_or,Bool.not_true,Bool.not_false,Bool.not_not];try rfl)
theorem B8j (p:B1) (st:St):S P 315 [B3H p] st fun v st'=>v=.bool (A7d p)∧st'=st:=by
 refine A5 [1] B7 mixed Tryz.func315 (by rfl) rfl rfl rfl ?_
 repeat' ((conv=>whnf);first | refine A4 (B2t p st) ?_ | (refine C3 (fun h=>?_) (fun h=>?_)<;>rw [h]))
 all_goals (conv=>whnf)
 all_goals (refine ⟨?_,rfl⟩;show AV.bool _=AV.bool _;congr 1)
 all_goals (simp only [A7d,R7, *,Bool.true_and,Bool.false_and,Bool.and_true,Bool.and_false,Bool.or_true,Bool.or_false,Bool.true_or,Bool.false_or,Bool.not_true,Bool.not_false,Bool.not_not];try rfl)
def J6 (s:D7):Bool:=s.toList==(⟨#[]⟩:D7).toList
def A1I (s:D7):Bool:=J6 s||F1 s
theorem C2k (s:D7) (st:St):S P 344 [eS s] st fun v st'=>v=.bool (A1I s)∧st'=st:=by
 refine A5 [] B7 mixed Tryz.func344 (by rfl) rfl rfl rfl ?_
 repeat' ((conv=>whnf);first | refine A4 (A6l s st) ?_ | (refine C3 (fun h=>?_) (fun h=>?_)<;>rw [h]))
 all_goals (conv=>whnf)
 all_goals (refine ⟨?_,rfl⟩;show AV.bool _=AV.bool _;congr 1)
 all_goals (simp only [A1I,J6, *,Bool.true_and,Bool.false_and,Bool.and_true,Bool.and_false,Bool.or_true,Bool.or_false,Bool.true_or,Bool.false_or,Bool.not_true,Bool.not_false,Bool.not_not];try rfl)
theorem B8e (x:A1b) (h1:x.scope.skus.length≤Big) (h2:x.scope.cats.length≤Big) (st:St):S P 342 [O9 x] st fun v st'=>v=.bool (!A0e x)∧st'=st:=by
 refine A5 [1] B7 mixed Tryz.func342 (by rfl) rfl rfl rfl ?_
 repeat' ((conv=>whnf);first | refine A4 (B7h x.scope h1 h2 st) ?_ | (refine C3 (fun h=>?_) (fun h=>?_)<;>rw [h]))
 all_goals (conv=>whnf)
 all_goals (refine ⟨?_,rfl⟩;show AV.bool _=AV.bool _;congr 1)
 all_goals (simp only [A0e,Bool.not_eq_true',Bool.not_eq_false', *,Bool.true_and,Bool.false_and,Bool.and_true,Bool.and_false,Bool.or_true,Bool.or_false,Bool.true_or,Bool.false_or,Bool.not_true,Bool.not_false,Bool.not_not] at *;try simp only [*,Bool.true_and,Bool.false_and,Bool.not_true,Bool.not_false,Bool.true_or,Bool.false_or,Bool.not_not])
def B3m (l:List A1b):Prop:=l.length≤Big∧∀ x∈l,x.scope.skus.length≤Big∧x.scope.cats.length≤Big
def A3R (p:B1):Bool:=!(decide ((p.parts.length:Int)<1)||decide ((p.parts.length:Int)>3)||decide (p.amount<0)||decide (p.amount>10000000000000))&&!(p.parts.any fun x=>!A0e x)
theorem B8i (p:B1) (hp:B3m p.parts) (st:St):S P 316 [B3H p] st fun v st'=>v=.bool (A3R p)∧st'=st:=by
 refine A5 [1] B7 mixed Tryz.func316 (by rfl) rfl rfl rfl ?_
 repeat' ((conv=>whnf);first | refine A4 (B5M p.parts hp.1 _ [] (fun x=>!A0e x) st fun x hx=>B8e x (hp.2 x hx).1 (hp.2 x hx).2 st) ?_ | (refine C3 (fun h=>?_) (fun h=>?_)<;>rw [h]))
 all_goals (conv=>whnf)
 all_goals (refine ⟨?_,rfl⟩;show AV.bool _=AV.bool _;congr 1)
 all_goals (simp only [A3R, *,Bool.true_and,Bool.false_and,Bool.and_true,Bool.and_false,Bool.or_true,Bool.or_false,Bool.true_or,Bool.false_or,Bool.not_true,Bool.not_false,Bool.not_not];try rfl)
def A3c (l:List Y6) (k:Nat) (x:Y6):Bool :=
 !(decide (x.least≤(if k=0 then -1 else (l.getD (k - 1) default).least))||decide (x.least>10000000000000)||decide (x.rate<0)||decide (x.rate>10000)||decide (x.amount<0)||decide (x.amount>10000000000000)||(x.rate==0&&x.amount==0))
def U9 (l:List Y6):Bool:=!(decide ((l.length:Int)<1)||decide ((l.length:Int)>6))&&I6 l (A3c l)
theorem B7o (p:B1) (st:St):S P 317 [B3H p] st fun v st'=>v=.bool (U9 p.tiers)∧st'=st:=by
 refine A5 [1,5] B7 mixed Tryz.func317 (by rfl) rfl rfl rfl ?_
 repeat' ((conv=>whnf);first  | (refine C3 (fun h=>?_) (fun h=>?_)<;>rw [h]))
 all_goals (conv=>whnf)
 all_goals first
  | (refine ⟨?_,rfl⟩;show AV.bool _=AV.bool _;congr 1;simp only [U9, *,Bool.true_or,Bool.or_true,Bool.not_true,Bool.false_and];done)
  | skip
 generalize hl:p.tiers=l at *
 have hs:l.length≤6:=by simp only [decide_eq_true_eq,decide_eq_false_iff_not] at *;omega
 have ht:U9 l=I6 l (A3c l):=by simp only [U9, *,Bool.or_false,Bool.not_false,Bool.true_and]
 refine ⟨[3,20,21,22],fun m vs st'=>∃ i:Nat,i≤l.length∧(∀ k,k<i→A3c l k (l.getD k default)=true)∧m=l.length - i∧vs=[eI (if i=0 then -1 else (l.getD (i - 1) default).least),A7 3 L4 l,eI l.length,eI i]∧st'=st,?_,?_⟩
 ·conv=>whnf
  exact ⟨_,0,Nat.zero_le _,fun k hk=>absurd hk (by omega),rfl,rfl,rfl⟩
 ·rintro m vs st' ⟨i,hi,hok,rfl,rfl,rfl⟩
  conv=>whnf
  cases h:decide ((i:Int)<(l.length:Int))
  ·have:=of_decide_eq_false h
   conv=>whnf
   refine ⟨?_,rfl⟩
   rw [ht,J1 fun k hk=>hok k (by omega)];rfl
  ·have hi':i<l.length:=by have:=of_decide_eq_true h;omega
   conv=>whnf
   refine ⟨rfl,⟨by omega,by omega⟩,?_⟩
   have yes:A3c l i (l.getD (i:Int).toNat default)=true→∀ k,k<i+1→A3c l k (l.getD k default)=true:=fun h=>L7 hok h
   have no:A3c l i (l.getD (i:Int).toNat default)=false→U9 l=false:=fun h=>by rw [ht];exact S1 hi' h
   unfold A3c at yes no
   repeat' ((conv=>whnf);first  | (refine C3 (fun h=>?_) (fun h=>?_)<;>rw [h]))
   all_goals (conv=>whnf)
   all_goals first
    | (refine ⟨?_,rfl⟩;rw [no (by simp only [*,Bool.true_and,Bool.and_self,Bool.or_true,Bool.true_or,Bool.not_true])];rfl)
    | (refine ⟨rfl,?_⟩
       conv=>whnf
       exact ⟨l.length - (i+1),by omega,i+1,by omega,yes (by simp only [*,Bool.false_and,Bool.and_false,Bool.or_false,Bool.not_false]),rfl,by rw [C0 (by omega),if_neg (show ¬ i+1=0 by omega)];rfl,rfl⟩)
def A5V (p:B1):Bool:=F1 p.id&&R7 0 1000 p.prio&&A1I p.group&&A1I p.code&&A0o p.scope&&R7 0 10000000000000 p.least
structure A6E (s:O4):Prop where
 skus:s.skus.length≤Big
 cats:s.cats.length≤Big
theorem C2p (p:B1) (hsc:A6E p.scope) (st:St):S P 318 [B3H p] st fun v st'=>v=.bool (A5V p)∧st'=st:=by
 refine A5 [1] B7 mixed Tryz.func318 (by rfl) rfl rfl rfl ?_
 repeat' ((conv=>whnf);first | refine A4 (A6l _ st) ?_ | refine A4 (C2k _ st) ?_ | refine A4 (B7h p.scope hsc.skus hsc.cats st) ?_ | (refine C3 (fun h=>?_) (fun h=>?_)<;>rw [h]))
 all_goals (conv=>whnf)
 all_goals (refine ⟨?_,rfl⟩;show AV.bool _=AV.bool _;congr 1)
 all_goals (simp only [A5V,R7, *,Bool.true_and,Bool.false_and,Bool.and_true,Bool.and_false,Bool.or_true,Bool.or_false,Bool.true_or,Bool.false_or,Bool.not_true,Bool.not_false,Bool.not_not];try rfl)
def A4R (p:B1):Bool :=
 (((p.kind==1)||(p.kind==7)||(p.kind==3))||p.rate==0)&&((p.kind==2)||(p.kind==4)||p.amount==0)&&((p.kind==3)||(p.buy==0&&p.get==0))&&((p.kind==4)||p.parts.length==0)&&((p.kind==5)||(p.kind==6)||p.tiers.length==0)&&(((p.kind != 4)&&(p.kind != 7))||(p.scope.skus.length+p.scope.cats.length==0))&&((p.kind != 7)||!p.closes)
theorem A1V (n:Nat):((n:Int)==0)=(n==0):=by
 rw [Bool.eq_iff_iff,beq_iff_eq,beq_iff_eq];omega
set_option maxHeartbeats 4000000 in
theorem C0j (p:B1) (hk:1≤p.kind∧p.kind≤7) (hs1:p.scope.skus.length≤20) (hs2:p.scope.cats.length≤20) (st:St):S P 319 [B3H p] st fun v st'=>v=.bool (A4R p)∧st'=st:=by
 refine A5 [1] B7 mixed Tryz.func319 (by rfl) rfl rfl rfl ?_
 obtain ⟨id,kind,prio,group,code,closes,scope,least,rate,amount,buy,get,parts,tiers⟩:=p
 simp only at *
 have wl:IntKind.i64.wrap ((scope.skus.length:Int)+(scope.cats.length:Int))=((scope.skus.length+scope.cats.length:Nat):Int):=by rw [A9 (by omega) (by omega)];omega
 rcases (by omega:kind=1∨kind=2∨kind=3∨kind=4∨kind=5∨kind=6∨kind=7) with rfl | rfl | rfl | rfl | rfl | rfl | rfl
 all_goals repeat' ((conv=>whnf);first  | (refine C3 (fun h=>?_) (fun h=>?_)<;>rw [h]))
 all_goals (conv=>whnf)
 all_goals (refine ⟨?_,rfl⟩;show AV.bool _=AV.bool _;congr 1)
 all_goals (try rw [wl] at *)
 all_goals (simp only [A1V] at *;simp [A4R, *])
theorem C9 {P:Program} {f:FuncId} {args:List AV} {st:St} {v:AV} (h:S P f args st fun v' st'=>v'=v∧st'=st):A1C P f args st fun v' st'=>v'=v∧st'=st:=call h fun _ _ h=>h
structure O3 (p:B1):Prop where
 scope:A6E p.scope
 parts:B3m p.parts
def A4Q (p:B1):Bool :=
 if p.kind=1 then A7e p else if p.kind=2 then A7c p else if p.kind=3 then A7d p else if p.kind=4 then A3R p else if p.kind=5 then U9 p.tiers else if p.kind=6 then U9 p.tiers else A7e p
def H4 (p:B1):Bool:=decide (p.kind≥1)&&decide (p.kind<8)&&A5V p&&A4R p&&A4Q p
theorem B0g {s:O4} (h:A0o s=true):s.skus.length≤20∧s.cats.length≤20:=by
 simp only [A0o,Bool.and_eq_true,decide_eq_true_eq] at h
 exact ⟨h.1.1,h.2.1⟩
theorem B1u {p:B1} (h:A5V p=true):p.scope.skus.length≤20∧p.scope.cats.length≤20:=by
 simp only [A5V,Bool.and_eq_true] at h
 exact B0g h.1.2
theorem A8S (p:B1) (hp:O3 p) (st:St):S P 258 [B8 p] st fun v st'=>v=.bool (H4 p)∧st'=st:=by
 refine A5 [1,3,4] B7 mixed Tryz.func258 (by rfl) rfl rfl rfl ?_;conv=>whnf
 refine ⟨[],[],[0,1,2,3,4,5,6,7,8,9,10,11,12,13,14,15,16,17,18,19,20,21,22,23,24],by kernel_rfl,?_⟩;conv=>whnf
 refine C3 (fun h1=>?_) (fun h1=>?_)<;>rw [h1]
 case refine_2 =>
  conv=>whnf
  refine ⟨?_,rfl⟩
  simp only [H4,h1,Bool.false_and];rfl
 conv=>whnf
 refine C3 (fun h2=>?_) (fun h2=>?_)<;>rw [h2]
 case refine_2 =>
  conv=>whnf
  refine ⟨?_,rfl⟩
  simp only [H4,h1,h2,Bool.false_and,Bool.and_false];rfl
 have hk:1≤p.kind∧p.kind≤7:=by simp only [decide_eq_true_eq] at h1 h2;omega
 conv=>whnf
 refine ⟨_,C9 (C2p p hp.scope st),?_⟩;conv=>whnf
 refine C3 (fun h3=>?_) (fun h3=>?_)
 case refine_2 =>
  rw [h3];conv=>whnf
  refine ⟨?_,rfl⟩
  simp only [H4,h3,Bool.false_and,Bool.and_false];rfl
 rw [h3]
 have hl:=B1u h3
 conv=>whnf
 refine ⟨_,C9 (C0j p hk hl.1 hl.2 st),?_⟩;conv=>whnf
 refine C3 (fun h4=>?_) (fun h4=>?_)
 case refine_2 =>
  rw [h4];conv=>whnf
  refine ⟨?_,rfl⟩
  simp only [H4,h4,Bool.false_and,Bool.and_false];rfl
 rw [h4]
 have hspec:H4 p=A4Q p:=by simp only [H4,h1,h2,h3,h4,Bool.true_and]
 rw [hspec]
 suffices hcall:∀ f,f=(if p.kind=1 then 313 else if p.kind=2 then 314 else if p.kind=3 then 315 else if p.kind=4 then 316 else if p.kind=5 then 317 else if p.kind=6 then 317 else 313)→S P f [B3H p] st fun v st'=>v=.bool (A4Q p)∧st'=st by
  clear hspec h1 h2 h3 h4 hl
  generalize A4Q p=B at *
  clear hp
  obtain ⟨id,kind,prio,group,code,closes,scope,least,rate,amount,buy,get,parts,tiers⟩:=p
  simp only at hk hcall
  rcases (by omega:kind=1∨kind=2∨kind=3∨kind=4∨kind=5∨kind=6∨kind=7) with rfl | rfl | rfl | rfl | rfl | rfl | rfl
  all_goals (conv=>whnf)
  all_goals (refine ⟨⟨by dsimp only;omega,by dsimp only;omega⟩,?_⟩;conv=>whnf)
  all_goals (refine ⟨_,C9 (hcall _ rfl),?_⟩;conv=>whnf)
  all_goals exact ⟨rfl,rfl⟩
 rintro f rfl
 unfold A4Q
 rcases (by omega:p.kind=1∨p.kind=2∨p.kind=3∨p.kind=4∨p.kind=5∨p.kind=6∨p.kind=7) with e | e | e | e | e | e | e<;>rw [e]
 ·exact B2t p st
 ·exact B8h p st
 ·exact B8j p st
 ·exact B8i p hp.parts st
 ·exact B7o p st
 ·exact B7o p st
 ·exact B2t p st
theorem B8c (s:D7) (st:St):S P 185 [eS s] st fun v st'=>v=.bool (!F1 s)∧st'=st:=by
 refine A5 [] B7 mixed Tryz.func185 (by rfl) rfl rfl rfl ?_;conv=>whnf
 refine A4 (A6l s st) ?_;conv=>whnf
 exact ⟨rfl,rfl⟩
def R8 (l:List D7):Bool:=decide ((l.length:Int)≤4)&&Y1 l&&!(l.any fun s=>!F1 s)
theorem B6J (l:List D7) (hl:l.length≤Big) (st:St):S P 103 [D3 l] st fun v st'=>v=.bool (R8 l)∧st'=st:=by
 refine A5 [] B7 mixed Tryz.func103 (by rfl) rfl rfl rfl ?_
 repeat' ((conv=>whnf);first | refine A4 (B0b l hl st) ?_ | refine A4 (B8F l hl _ [] (fun s=>!F1 s) st fun x _=>B8c x st) ?_ | (refine C3 (fun h=>?_) (fun h=>?_)<;>rw [h]))
 all_goals (conv=>whnf)
 all_goals (refine ⟨?_,rfl⟩;show AV.bool _=AV.bool _;congr 1)
 all_goals (simp only [R8, *,Bool.true_and,Bool.false_and,Bool.and_true,Bool.and_false];try rfl)
theorem C0G (p x:B1) (st:St):S P 260 [B8 x,.fptr (B8 p) 0] st fun v st'=>v=.bool (x.id.toList==p.id.toList)∧st'=st:=by
 refine A5 [2] B7 mixed Tryz.func260 (by rfl) rfl rfl rfl ?_;conv=>whnf
 exact ⟨rfl,rfl⟩
theorem B0i {α : Type} [Inhabited α] (e:Nat) (enc : α→AV) (l:List α) (i n:Nat) (f:Nat→AV) (hi:i≤l.length) (hn:n=i) (hf:∀ k,k<i→f k=enc (l.getD k default)) (st:St):B2 [.arr e n f] st [A7 e enc (l.take i)] st:=by
 subst hn
 have el:(l.take n).length=n:=by rw [List.length_take];omega
 have e2:A7 e enc (l.take n)=.arr e n (fun k=>enc ((l.take n).getD k default)):=by unfold A7;rw [el]
 rw [e2]
 refine B2.arr fun k hk=>?_
 rw [hf k hk]
 congr 1
 simp [List.getD_eq_getElem?_getD,List.getElem?_take_of_lt hk]
def A0S (l:List B1) (k:Nat) (p:B1):Bool:=H4 p&&!((l.take k).any fun x=>x.id.toList==p.id.toList)
def promosC (l:List B1):Bool:=decide ((l.length:Int)≤60)&&I6 l (A0S l)
theorem C0m (l:List B1) (hl:l.length≤Big) (hf:∀ p∈l,O3 p) (st:St):S P 179 [A7 15 B8 l] st fun v st'=>v=.bool (promosC l)∧st'=st:=by
 refine A5 [4] B7 mixed Tryz.func179 (by rfl) rfl rfl rfl ?_;conv=>whnf
 refine C3 (fun h=>?_) (fun h=>?_)<;>rw [h]<;>simp only [decide_eq_true_eq,decide_eq_false_iff_not] at h
 ·conv=>whnf
  refine ⟨?_,rfl⟩
  rw [show promosC l=false by unfold promosC;rw [decide_eq_false (by omega),Bool.false_and]];rfl
 have ht:promosC l=I6 l (A0S l):=by unfold promosC;rw [decide_eq_true (by omega),Bool.true_and]
 conv=>whnf
 refine ⟨[0,8,9,10],fun m vs st'=>∃ i:Nat,i≤l.length∧(∀ k,k<i→A0S l k (l.getD k default)=true)∧m=l.length - i∧vs=[A7 15 B8 l,A7 15 B8 l,eI l.length,eI i]∧st'=st,?_,?_⟩
 ·conv=>whnf
  exact ⟨_,0,Nat.zero_le _,fun k hk=>absurd hk (by omega),rfl,rfl,rfl⟩
 ·rintro m vs st' ⟨i,hi,hok,rfl,rfl,rfl⟩
  conv=>whnf
  cases h:decide ((i:Int)<(l.length:Int))
  ·have:=of_decide_eq_false h
   conv=>whnf
   refine ⟨?_,rfl⟩
   rw [ht,J1 fun k hk=>hok k (by omega)];rfl
  ·have hi':i<l.length:=by have:=of_decide_eq_true h;omega
   conv=>whnf
   refine ⟨rfl,⟨by omega,by omega⟩,?_⟩
   have yes:A0S l i (l.getD (i:Int).toNat default)=true→∀ k,k<i+1→A0S l k (l.getD k default)=true:=fun h=>L7 hok h
   have no:A0S l i (l.getD (i:Int).toNat default)=false→promosC l=false:=fun h=>by rw [ht];exact S1 hi' h
   have hmem:l.getD (i:Int).toNat default∈l:=by
    rw [Int.toNat_natCast,List.getD_eq_getElem?_getD,List.getElem?_eq_getElem hi'];exact List.getElem_mem hi'
   unfold A0S at yes no;conv=>whnf
   refine A4 (A8S (l.getD (i:Int).toNat default) (hf _ hmem) _) ?_;conv=>whnf
   refine C3 (fun h1=>?_) (fun h1=>?_)
   ·rw [h1];conv=>whnf
    refine ⟨?_,rfl⟩
    rw [no (by rw [show H4 (l.getD (i:Int).toNat default)=false by simpa using h1,Bool.false_and])];rfl
   ·rw [h1]
    have h1':H4 (l.getD (i:Int).toNat default)=true:=by simpa using h1
    conv=>whnf
    refine ⟨rfl,⟨by omega,by omega,by omega⟩,?_⟩;conv=>whnf
    refine I5 (B2.cons (B0i 15 B8 l i _ _ hi (by omega) (fun k hk=>by simp) _) (B2.keep _ _)) (A4 (B4o (l.take i) (by rw [List.length_take];omega) _ [.fptr (B8 (l.getD (i:Int).toNat default)) 0] (fun x=>x.id.toList==(l.getD (i:Int).toNat default).id.toList) _ fun x _=>C0G _ x _) ?_);conv=>whnf
    refine C3 (fun h2=>?_) (fun h2=>?_)
    ·rw [h2];conv=>whnf
     refine ⟨?_,rfl⟩
     rw [no (by rw [h2,Bool.not_true,Bool.and_false])];rfl
    ·rw [h2];conv=>whnf
     refine ⟨rfl,?_⟩;conv=>whnf
     exact ⟨l.length - (i+1),by omega,i+1,by omega,yes (by rw [h1',h2];rfl),rfl,by rw [C0 (by omega)],rfl⟩
def A3n (x:Ab.Item):Bool:=!(!F1 x.sku||!F1 x.cat||decide (x.price<0)||decide (x.price>1000000000))
def A0M (l:List Ab.Item):Bool:=!decide ((l.length:Int)>500)&&(I6 l (fun _ x=>A3n x)&&Y1 (l.map Ab.Item.sku))
theorem C2d (l:List Ab.Item) (st:St):S P 178 [A7 4 E3 l] st fun v st'=>v=.bool (A0M l)∧st'=st:=by
 refine A2F ?_
 refine A5 [5] B7 mixed Tryz.func178 (by rfl) rfl rfl rfl ?_;conv=>whnf
 refine C3 (fun h=>?_) (fun h=>?_)<;>rw [h]
 ·conv=>whnf
  refine ⟨?_,F2.refl _⟩
  rw [show A0M l=false by unfold A0M;rw [h];rfl];rfl
 have hs:l.length≤500:=by simp only [decide_eq_false_iff_not] at h;omega
 have ht:A0M l=(I6 l (fun _ x=>A3n x)&&Y1 (l.map Ab.Item.sku)):=by unfold A0M;rw [h,Bool.not_false,Bool.true_and]
 conv=>whnf
 refine ⟨[3,9,10,11],fun m vs st'=>∃ (i:Nat) (sv:AV),i≤l.length∧(∀ k,k<i→(fun (_:Nat) (x:Ab.Item)=>A3n x) k (l.getD k default)=true)∧m=l.length - i∧vs=[sv,A7 4 E3 l,eI l.length,eI i]∧H7 9 1 (fun k=>eS (Ab.Item.sku (l.getD k default))) st i sv st',?_,?_⟩
 ·conv=>whnf
  exact ⟨_,0,.emp,Nat.zero_le _,fun k hk=>absurd hk (by omega),rfl,rfl,H7.start _ _ _ _⟩
 ·rintro m vs st' ⟨i,sv,hi,hok,rfl,rfl,hc⟩
  conv=>whnf
  cases h:decide ((i:Int)<(l.length:Int))
  ·have:=of_decide_eq_false h
   obtain rfl:i=l.length:=by omega
   conv=>whnf
   refine I5 (hc.shift.trans (B2m Ab.Item.sku l st)) (A4 (B0b (l.map Ab.Item.sku) (by rw [List.length_map];omega) st) ?_);conv=>whnf
   refine ⟨?_,F2.refl _⟩
   rw [ht,J1 fun k hk=>hok k (by omega),Bool.true_and];rfl
  ·have hi':i<l.length:=by have:=of_decide_eq_true h;omega
   conv=>whnf
   refine ⟨rfl,⟨by omega,by omega⟩,?_⟩
   have yes:(fun (_:Nat) (x:Ab.Item)=>A3n x) i (l.getD (i:Int).toNat default)=true→∀ k,k<i+1→(fun (_:Nat) (x:Ab.Item)=>A3n x) k (l.getD k default)=true:=fun h=>L7 hok h
   have no:(fun (_:Nat) (x:Ab.Item)=>A3n x) i (l.getD (i:Int).toNat default)=false→A0M l=false:=fun h=>by rw [ht,S1 hi' h,Bool.false_and]
   have hmem:l.getD (i:Int).toNat default∈l:=by
    rw [Int.toNat_natCast,List.getD_eq_getElem?_getD,List.getElem?_eq_getElem hi'];exact List.getElem_mem hi'
   have hsup:=hc.sup
   simp only [A3n] at yes no
   repeat' ((conv=>whnf);first | refine A4 (A6l _ _) ?_ | (refine C3 (fun h=>?_) (fun h=>?_)<;>rw [h]))
   all_goals (conv=>whnf)
   all_goals first
    | (refine ⟨?_,hsup⟩;rw [no (by first | (simp only [*,Bool.true_and,Bool.and_self,Bool.or_true,Bool.true_or,Bool.not_true];done) | simpa using h)];rfl)
    | skip
   refine H7.app rfl rfl rfl rfl rfl ?_ (by show (i+1) * 16≤140737488355328;omega) hc (fun sv' st'' hc'=>?_)
   ·rfl
   conv=>whnf
   refine ⟨rfl,?_⟩;conv=>whnf
   exact ⟨l.length - (i+1),by omega,i+1,sv',by omega,yes (by first | (simp only [*,Bool.false_and,Bool.and_false,Bool.or_false,Bool.not_false];done) | simpa using h),rfl,by rw [C0 (by omega)],hc'⟩
def A4j (x:G6):Bool:=!(!F1 x.cat||!R7 0 10000 x.rate)
def Z2 (z:U3):Bool:=!(!F1 z.name||!R7 0 10000 z.rest||!R7 0 10000 z.ship||decide ((z.rates.length:Int)>40))&&(I6 z.rates (fun _ x=>A4j x)&&Y1 (z.rates.map G6.cat))
theorem C4O (z:U3) (st:St):S P 261 [S8 z] st fun v st'=>v=.bool (Z2 z)∧st'=st:=by
 refine A2F ?_
 refine A5 [1,5] B7 mixed Tryz.func261 (by rfl) rfl rfl rfl ?_
 repeat' ((conv=>whnf);first | refine A4 (A6l _ _) ?_ | refine A4 (B2N _ _) ?_ | (refine C3 (fun h=>?_) (fun h=>?_)<;>rw [h]))
 all_goals (conv=>whnf)
 all_goals first
  | (refine ⟨?_,F2.refl _⟩
     rw [show Z2 z=false by unfold Z2;simp only [*,Bool.true_or,Bool.or_true,Bool.not_true,Bool.false_and]]
     rfl)
  | skip
 have hs:z.rates.length≤40:=by simp only [decide_eq_false_iff_not] at h;omega
 have ht:Z2 z=(I6 z.rates (fun _ x=>A4j x)&&Y1 (z.rates.map G6.cat)):=by unfold Z2;simp only [*,Bool.or_false,Bool.not_false,Bool.true_and]
 refine ⟨[3,29,30,31],fun m vs st'=>∃ (i:Nat) (sv:AV),i≤z.rates.length∧(∀ k,k<i→(fun (_:Nat) (x:G6)=>A4j x) k (z.rates.getD k default)=true)∧m=z.rates.length - i∧vs=[sv,A7 2 A0J z.rates,eI z.rates.length,eI i]∧H7 9 1 (fun k=>eS (G6.cat (z.rates.getD k default))) st i sv st',?_,?_⟩
 ·conv=>whnf
  exact ⟨_,0,.emp,Nat.zero_le _,fun k hk=>absurd hk (by omega),rfl,rfl,H7.start _ _ _ _⟩
 ·rintro m vs st' ⟨i,sv,hi,hok,rfl,rfl,hc⟩
  conv=>whnf
  cases h:decide ((i:Int)<(z.rates.length:Int))
  ·have:=of_decide_eq_false h
   obtain rfl:i=z.rates.length:=by omega
   conv=>whnf
   refine I5 (hc.shift.trans (B2m G6.cat z.rates st)) (A4 (B0b (z.rates.map G6.cat) (by rw [List.length_map];omega) st) ?_);conv=>whnf
   refine ⟨?_,F2.refl _⟩
   rw [ht,J1 fun k hk=>hok k (by omega),Bool.true_and];rfl
  ·have hi':i<z.rates.length:=by have:=of_decide_eq_true h;omega
   conv=>whnf
   refine ⟨rfl,⟨by omega,by omega⟩,?_⟩
   have yes:(fun (_:Nat) (x:G6)=>A4j x) i (z.rates.getD (i:Int).toNat default)=true→∀ k,k<i+1→(fun (_:Nat) (x:G6)=>A4j x) k (z.rates.getD k default)=true:=fun h=>L7 hok h
   have no:(fun (_:Nat) (x:G6)=>A4j x) i (z.rates.getD (i:Int).toNat default)=false→Z2 z=false:=fun h=>by rw [ht,S1 hi' h,Bool.false_and]
   have hmem:z.rates.getD (i:Int).toNat default∈z.rates:=by
    rw [Int.toNat_natCast,List.getD_eq_getElem?_getD,List.getElem?_eq_getElem hi'];exact List.getElem_mem hi'
   have hsup:=hc.sup
   simp only [A4j] at yes no
   repeat' ((conv=>whnf);first | refine A4 (A6l _ _) ?_ | refine A4 (B2N _ _) ?_ | (refine C3 (fun h=>?_) (fun h=>?_)<;>rw [h]))
   all_goals (conv=>whnf)
   all_goals first
    | (refine ⟨?_,hsup⟩;rw [no (by first | (simp only [*,Bool.true_and,Bool.and_self,Bool.or_true,Bool.true_or,Bool.not_true];done) | simpa using h)];rfl)
    | skip
   refine H7.app rfl rfl rfl rfl rfl ?_ (by show (i+1) * 16≤140737488355328;omega) hc (fun sv' st'' hc'=>?_)
   ·rfl
   conv=>whnf
   refine ⟨rfl,?_⟩;conv=>whnf
   exact ⟨z.rates.length - (i+1),by omega,i+1,sv',by omega,yes (by first | (simp only [*,Bool.false_and,Bool.and_false,Bool.or_false,Bool.not_false];done) | simpa using h),rfl,by rw [C0 (by omega)],hc'⟩
def A7s (x:Tax):Bool:=!(decide (x.round<0)||decide (x.round>2)||decide ((x.zones.length:Int)>20))&&(I6 x.zones (fun _ z=>Z2 z)&&Y1 (x.zones.map U3.name))
theorem C6B (x:Tax) (st:St):S P 180 [B0K x] st fun v st'=>v=.bool (A7s x)∧st'=st:=by
 refine A2F ?_
 refine A5 [1,5] B7 mixed Tryz.func180 (by rfl) rfl rfl rfl ?_
 repeat' ((conv=>whnf);first  | (refine C3 (fun h=>?_) (fun h=>?_)<;>rw [h]))
 all_goals (conv=>whnf)
 all_goals first
  | (refine ⟨?_,F2.refl _⟩
     rw [show A7s x=false by unfold A7s;simp only [*,Bool.true_or,Bool.or_true,Bool.not_true,Bool.false_and]]
     rfl)
  | skip
 have hs:x.zones.length≤20:=by simp only [decide_eq_false_iff_not] at h;omega
 have ht:A7s x=(I6 x.zones (fun _ z=>Z2 z)&&Y1 (x.zones.map U3.name)):=by unfold A7s;simp only [*,Bool.or_false,Bool.not_false,Bool.true_and]
 refine ⟨[3,21,22,23],fun m vs st'=>∃ (i:Nat) (sv:AV),i≤x.zones.length∧(∀ k,k<i→(fun (_:Nat) (z:U3)=>Z2 z) k (x.zones.getD k default)=true)∧m=x.zones.length - i∧vs=[sv,A7 4 S8 x.zones,eI x.zones.length,eI i]∧H7 9 1 (fun k=>eS (U3.name (x.zones.getD k default))) st i sv st',?_,?_⟩
 ·conv=>whnf
  exact ⟨_,0,.emp,Nat.zero_le _,fun k hk=>absurd hk (by omega),rfl,rfl,H7.start _ _ _ _⟩
 ·rintro m vs st' ⟨i,sv,hi,hok,rfl,rfl,hc⟩
  conv=>whnf
  cases h:decide ((i:Int)<(x.zones.length:Int))
  ·have:=of_decide_eq_false h
   obtain rfl:i=x.zones.length:=by omega
   conv=>whnf
   refine I5 (hc.shift.trans (B2m U3.name x.zones st)) (A4 (B0b (x.zones.map U3.name) (by rw [List.length_map];omega) st) ?_);conv=>whnf
   refine ⟨?_,F2.refl _⟩
   rw [ht,J1 fun k hk=>hok k (by omega),Bool.true_and];rfl
  ·have hi':i<x.zones.length:=by have:=of_decide_eq_true h;omega
   conv=>whnf
   refine ⟨rfl,⟨by omega,by omega⟩,?_⟩
   have yes:(fun (_:Nat) (z:U3)=>Z2 z) i (x.zones.getD (i:Int).toNat default)=true→∀ k,k<i+1→(fun (_:Nat) (z:U3)=>Z2 z) k (x.zones.getD k default)=true:=fun h=>L7 hok h
   have no:(fun (_:Nat) (z:U3)=>Z2 z) i (x.zones.getD (i:Int).toNat default)=false→A7s x=false:=fun h=>by rw [ht,S1 hi' h,Bool.false_and]
   have hmem:x.zones.getD (i:Int).toNat default∈x.zones:=by
    rw [Int.toNat_natCast,List.getD_eq_getElem?_getD,List.getElem?_eq_getElem hi'];exact List.getElem_mem hi'
   have hsup:=hc.sup
   simp only [not_true] at yes no
   conv=>whnf
   refine A4 (C4O (x.zones.getD (i:Int).toNat default) _) ?_;conv=>whnf
   refine C3 (fun h=>?_) (fun h=>?_)<;>rw [h]
   all_goals (conv=>whnf)
   all_goals first
    | (refine ⟨?_,hsup⟩;rw [no (by first | (simp only [*,Bool.true_and,Bool.and_self,Bool.or_true,Bool.true_or,Bool.not_true];done) | simpa using h)];rfl)
    | skip
   refine H7.app rfl rfl rfl rfl rfl ?_ (by show (i+1) * 16≤140737488355328;omega) hc (fun sv' st'' hc'=>?_)
   ·rfl
   conv=>whnf
   refine ⟨rfl,?_⟩;conv=>whnf
   exact ⟨x.zones.length - (i+1),by omega,i+1,sv',by omega,yes (by first | (simp only [*,Bool.false_and,Bool.and_false,Bool.or_false,Bool.not_false];done) | simpa using h),rfl,by rw [C0 (by omega)],hc'⟩
def A1H (l:List Int) (i:Nat) (k:Int):Bool:=!(!R7 1 9 k||(l.take i).any fun y=>k==y)
def A1j (l:List Int):Bool:=I6 l (A1H l)
theorem B6S (l:List Int) (hl:l.length<9223372036854775807) (st:St):S P 263 [B3 l] st fun v st'=>v=.bool (A1j l)∧st'=st:=by
 refine A5 [] B7 mixed Tryz.func263 (by rfl) rfl rfl rfl ?_;conv=>whnf
 refine ⟨[0,5,6,7],fun m vs st'=>∃ i:Nat,i≤l.length∧(∀ k,k<i→A1H l k (l.getD k default)=true)∧m=l.length - i∧vs=[B3 l,B3 l,eI l.length,eI i]∧st'=st,?_,?_⟩
 ·conv=>whnf
  exact ⟨_,0,Nat.zero_le _,fun k hk=>absurd hk (by omega),rfl,rfl,rfl⟩
 ·rintro m vs st' ⟨i,hi,hok,rfl,rfl,rfl⟩
  conv=>whnf
  cases h:decide ((i:Int)<(l.length:Int))
  ·have:=of_decide_eq_false h
   conv=>whnf
   refine ⟨?_,rfl⟩
   rw [show A1j l=true from J1 fun k hk=>hok k (by omega)];rfl
  ·have hi':i<l.length:=by have:=of_decide_eq_true h;omega
   conv=>whnf
   refine ⟨rfl,⟨by omega,by omega⟩,?_⟩
   have yes:A1H l i (l.getD (i:Int).toNat default)=true→∀ k,k<i+1→A1H l k (l.getD k default)=true:=fun h=>L7 hok h
   have no:A1H l i (l.getD (i:Int).toNat default)=false→A1j l=false:=fun h=>S1 hi' h
   unfold A1H at yes no;conv=>whnf
   refine A4 (C3X _ _) ?_;conv=>whnf
   refine C3 (fun h1=>?_) (fun h1=>?_)
   ·rw [h1];conv=>whnf
    refine ⟨?_,rfl⟩
    rw [no (by rw [h1];rfl)];rfl
   ·rw [h1];conv=>whnf
    refine ⟨rfl,⟨by omega,by omega,by omega⟩,?_⟩;conv=>whnf
    refine I5 (B2.cons (B0i 1 eI l i _ _ hi (by omega) (fun k hk=>by simp) _) (B2.keep _ _)) (A4 (B9O (l.take i) (by rw [List.length_take];omega) _ _) ?_);conv=>whnf
    refine C3 (fun h2=>?_) (fun h2=>?_)
    ·rw [h2];conv=>whnf
     refine ⟨?_,rfl⟩
     rw [no (by rw [h2,Bool.or_true,Bool.not_true])];rfl
    ·rw [h2];conv=>whnf
     refine ⟨rfl,?_⟩;conv=>whnf
     exact ⟨l.length - (i+1),by omega,i+1,by omega,yes (by rw [h1,h2];rfl),rfl,by rw [C0 (by omega)],rfl⟩
def A5z (p:A4y):Bool:=R7 0 100000 p.window&&R7 0 100000 p.grace&&decide (p.mode≥1)&&decide (p.mode≤3)&&R7 0 10000 p.restock&&A1j p.order&&A1j p.credit
structure A0a (r:E8):Prop where
 promos:r.promos.length≤Big
 fit:∀ p∈r.promos,O3 p
 order:r.policy.order.length<9223372036854775807
 credit:r.policy.credit.length<9223372036854775807
theorem C0l (p:A4y) (h1:p.order.length<9223372036854775807) (h2:p.credit.length<9223372036854775807) (st:St):S P 182 [C1O p] st fun v st'=>v=.bool (A5z p)∧st'=st:=by
 refine A5 [1] B7 mixed Tryz.func182 (by rfl) rfl rfl rfl ?_
 repeat' ((conv=>whnf);first | refine A4 (C4T _ st) ?_ | refine A4 (B2N _ st) ?_ | refine A4 (B6S p.order h1 st) ?_ | refine A4 (B6S p.credit h2 st) ?_ | (refine C3 (fun h=>?_) (fun h=>?_)<;>rw [h]))
 all_goals (conv=>whnf)
 all_goals (refine ⟨?_,rfl⟩;show AV.bool _=AV.bool _;congr 1)
 all_goals (simp only [A5z, *,Bool.true_and,Bool.false_and,Bool.and_true,Bool.and_false,Bool.or_true,Bool.or_false,Bool.true_or,Bool.false_or,Bool.not_true,Bool.not_false,Bool.not_not];try rfl)
def O0 (r:E8):Bool:=A0M r.items&&promosC r.promos&&A7s r.tax&&A8q r.ship&&A5z r.policy
theorem B7g (r:E8) (hf:A0a r) (st:St):S P 102 [J2 r] st fun v st'=>v=.bool (O0 r)∧st'=st:=by
 refine A5 [1] B7 mixed Tryz.func102 (by rfl) rfl rfl rfl ?_
 repeat' ((conv=>whnf);first | refine A4 (C2d r.items st) ?_ | refine A4 (C0m r.promos hf.promos hf.fit st) ?_ | refine A4 (C6B r.tax st) ?_ | refine A4 (C4u r.ship st) ?_ | refine A4 (C0l r.policy hf.order hf.credit st) ?_ | (refine C3 (fun h=>?_) (fun h=>?_)<;>rw [h]))
 all_goals (conv=>whnf)
 all_goals (refine ⟨?_,rfl⟩;show AV.bool _=AV.bool _;congr 1)
 all_goals (simp only [O0, *,Bool.true_and,Bool.false_and,Bool.and_true,Bool.and_false,Bool.or_true,Bool.or_false,Bool.true_or,Bool.false_or,Bool.not_true,Bool.not_false,Bool.not_not];try rfl)
end Go.Proofs.YthdimklenlikgaaGreat
namespace Go.Proofs.YthdimklenlikgaaGreat
open Go Go.Ab
theorem A2e:∀ x:List UInt8,Op.bytesLess x x=false
 | []=>rfl
 | a::x=>by simp [Op.bytesLess,A2e x,UInt8.lt_irrefl]
theorem B3u:∀ x y z:List UInt8,Op.bytesLess x y=true→Op.bytesLess y z=true→Op.bytesLess x z=true
 | _,_,[],_,h=>by simp [Op.bytesLess] at h
 | _,[],_::_,h,_=>by simp [Op.bytesLess] at h
 | [],_::_,_::_,_,_=>by simp [Op.bytesLess]
 | a::x,b::y,c::z,h1,h2=>by
  simp only [Op.bytesLess,Bool.or_eq_true,Bool.and_eq_true,decide_eq_true_eq,beq_iff_eq] at *
  rcases h1 with h1 | ⟨rfl,h1⟩
  ·rcases h2 with h2 | ⟨rfl,h2⟩
   ·exact .inl (UInt8.lt_trans h1 h2)
   ·exact .inl h1
  ·rcases h2 with h2 | ⟨rfl,h2⟩
   ·exact .inl h2
   ·exact .inr ⟨rfl,B3u x y z h1 h2⟩
theorem B9s:∀ x y:List UInt8,Op.bytesLess x y=false→Op.bytesLess y x=false→x=y
 | [],[],_,_=>rfl
 | [],_::_,h,_=>by simp [Op.bytesLess] at h
 | _::_,[],_,h=>by simp [Op.bytesLess] at h
 | a::x,b::y,h1,h2=>by
  simp only [Op.bytesLess,Bool.or_eq_false_iff,Bool.and_eq_false_iff,decide_eq_false_iff_not,beq_eq_false_iff_ne] at *
  have hab:a=b:=by
   have n1:=UInt8.not_lt.1 h1.1
   have n2:=UInt8.not_lt.1 h2.1
   exact UInt8.le_antisymm n2 n1
  subst hab
  rw [B9s x y (h1.2.resolve_left (by simp)) (h2.2.resolve_left (by simp))]
theorem A3Z (a:D7):slt a a=false:=A2e _
theorem B1H {a b c:D7} (h1:slt a b=true) (h2:slt b c=true):slt a c=true:=B3u _ _ _ h1 h2
theorem A5E {a b:D7} (h1:slt a b=false) (h2:slt b a=false):a.toList=b.toList:=B9s _ _ h1 h2
theorem A5D {a b:D7} (h:slt a b=true):slt b a=false:=by
 cases hb:slt b a with
 | false=>rfl
 | true=>have:=B1H h hb;rw [A3Z] at this;cases this
theorem A3u {a b c:D7} (h1:slt b a=false) (h2:slt c b=false):slt c a=false:=by
 cases hca:slt c a with
 | false=>rfl
 | true =>
  cases hab:slt a b with
  | true=>have:=B1H hca hab;rw [this] at h2;cases h2
  | false =>
   have e:=A5E hab h1
   have:slt c b=true:=by unfold slt at *;rw [←e];exact hca
   rw [this] at h2;cases h2
theorem B1G {a a' b b':D7} (h1:a.toList=a'.toList) (h2:b.toList=b'.toList):slt a b=slt a' b':=by unfold slt;rw [h1,h2]
def A3v (l:List D7) (k:Nat):Bool:=k==0||!slt (l.getD k default) (l.getD (k - 1) default)
theorem B4K {l:List D7} (h:∀ k,k<l.length→A3v l k=true) {a b:Nat} (hab:a≤b) (hb:b<l.length):slt (l.getD b default) (l.getD a default)=false:=by
 induction b with
 | zero=>have:a=0:=by omega
         subst this;exact A3Z _
 | succ b ih =>
  rcases Nat.lt_or_ge a (b+1) with hlt | hge
  ·have h1:=ih (by omega) (by omega)
   have h2:=h (b+1) hb
   simp only [A3v,Nat.add_one_ne_zero,beq_iff_eq,Bool.or_eq_true,Bool.not_eq_true',Nat.add_sub_cancel,false_or] at h2
   exact A3u h1 h2
  ·have:a=b+1:=by omega
   subst this;exact A3Z _
end Go.Proofs.YthdimklenlikgaaGreat
namespace Go.Proofs.YthdimklenlikgaaGreat
open Go Go.Ab
attribute [local irreducible] upd del
theorem C3p (a:D7) (st:St):S P 267 [eS a] st fun v st'=>v=.bool false∧st'=st:=by
 refine A5 [] B7 mixed Tryz.func267 (by rfl) rfl rfl rfl ?_;conv=>whnf
 refine ⟨?_,rfl⟩
 show AV.bool (!(a.toList==a.toList))=_
 simp
def A7D (a b:D7):Int:=if slt a b=true then -1 else if slt b a=true then 1 else 0
theorem B6O (a b:D7):(!(Op.bytesLess a.toList b.toList||a.toList==b.toList))=slt b a:=by
 cases h1:Op.bytesLess a.toList b.toList with
 | true=>rw [A5D (a:=a) (b:=b) h1];rfl
 | false =>
  cases h2:slt b a with
  | true =>
   have hne:(a.toList==b.toList)=false:=by
    rw [beq_eq_false_iff_ne];intro e
    unfold slt at h2;rw [e,A2e] at h2;cases h2
   rw [hne];rfl
  | false=>rw [A5E (a:=a) (b:=b) h1 h2];simp
theorem C3d (a b:D7) (st:St):S P 196 [eS a,eS b] st fun v st'=>v=eI (A7D a b)∧st'=st:=by
 refine A5 [] B7 mixed Tryz.func196 (by rfl) rfl rfl rfl ?_;conv=>whnf
 refine A4 (C3p _ _) ?_;conv=>whnf
 refine A4 (C3p _ _) ?_;conv=>whnf
 refine C3 (fun h=>?_) (fun h=>?_)<;>rw [h]
 ·conv=>whnf
  exact ⟨by rw [show A7D a b = -1 from if_pos h];rfl,rfl⟩
 ·have h0:¬ slt a b=true:=by rw [show slt a b=false from h];simp
  conv=>whnf
  refine C3 (fun h2=>?_) (fun h2=>?_)
  ·have h3:slt b a=true:=by rw [←B6O a b];exact h2
   rw [h2];conv=>whnf
   exact ⟨by rw [show A7D a b=1 by unfold A7D;rw [if_neg h0,if_pos h3]];rfl,rfl⟩
  ·have h3:¬ slt b a=true:=by rw [←B6O a b,Bool.not_eq_true];exact h2
   rw [h2];conv=>whnf
   exact ⟨by rw [show A7D a b=0 by unfold A7D;rw [if_neg h0,if_neg h3]];rfl,rfl⟩
theorem B1X (a b:Ab.Item) (st:St):S P 205 [E3 a,E3 b] st fun v st'=>v=eI (A7D a.sku b.sku)∧st'=st:=by
 refine A5 [2,3] B7 mixed Tryz.func205 (by rfl) rfl rfl rfl ?_;conv=>whnf
 refine A4 (C3d _ _ _) ?_;conv=>whnf
 exact ⟨rfl,rfl⟩
theorem A9k (a b:D7):decide (A7D a b<0)=slt a b:=by
 unfold A7D
 split
 ·rename_i h;rw [h];rfl
 ·rename_i h
  rw [Bool.not_eq_true] at h
  rw [h];split<;>rfl
theorem B7G (a b:D7):(A7D a b==0)=(a.toList==b.toList):=by
 unfold A7D
 split
 ·rename_i h
  have:(a.toList==b.toList)=false:=by
   rw [beq_eq_false_iff_ne];intro e
   unfold slt at h;rw [e,A2e] at h;cases h
  rw [this];rfl
 ·split
  ·rename_i h1 h
   have:(a.toList==b.toList)=false:=by
    rw [beq_eq_false_iff_ne];intro e
    unfold slt at h;rw [e,A2e] at h;cases h
   rw [this];rfl
  ·rename_i h1 h2
   rw [Bool.not_eq_true] at h1 h2
   rw [A5E h1 h2];simp
abbrev skus (l:List Ab.Item):List D7:=l.map Ab.Item.sku
theorem B2S (l:List Ab.Item) {k:Nat} (hk:k<l.length):(skus l).getD k default=(l.getD k default).sku:=D8 Ab.Item.sku l hk
def A7o (l:List D7):Bool:=(List.range l.length).all (A3v l)
theorem C0W (l:List Ab.Item) (hl:l.length<9223372036854775807) (st:St):S P 204 [A7 4 E3 l,.fn (.func 205) [] []] st fun v st'=>v=.bool (A7o (skus l))∧st'=st:=by
 refine A5 [] B7 mixed Tryz.func204 (by rfl) rfl rfl rfl ?_;conv=>whnf
 have hlen:(skus l).length=l.length:=List.length_map ..
 refine ⟨[0,1,5],fun m vs st'=>∃ i:Int,-1≤i∧i<l.length∧(∀ k:Nat,i<k→k<l.length→A3v (skus l) k=true)∧m=(i+1).toNat∧vs=[A7 4 E3 l,.fn (.func 205) [] [],eI i]∧st'=st,?_,?_⟩
 ·conv=>whnf
  have w:IntKind.i64.wrap ((l.length:Int) - 1)=(l.length:Int) - 1:=A9 (by omega) (by omega)
  exact ⟨_,(l.length:Int) - 1,by omega,by omega,fun k h1 h2=>by omega,rfl,by rw [w],rfl⟩
 ·rintro m vs st' ⟨i,h0,hi,hok,rfl,rfl,rfl⟩
  conv=>whnf
  cases h:decide (i>0)
  ·have:=of_decide_eq_false h
   conv=>whnf
   refine ⟨?_,rfl⟩
   rw [show A7o (skus l)=true from B5d fun k hk=>?_];rfl
   rw [hlen] at hk
   rcases Nat.eq_zero_or_pos k with e | e
   ·subst e;rfl
   ·exact hok k (by omega) hk
  ·have hp:=of_decide_eq_true h
   have w:IntKind.i64.wrap (i - 1)=i - 1:=A9 (by omega) (by omega)
   conv=>whnf
   refine ⟨[],[],[0,1,2,3,4,5,6,7,8,9,10,11],by kernel_rfl,?_⟩;conv=>whnf
   refine ⟨rfl,⟨by omega,by omega⟩,?_⟩;conv=>whnf
   rw [w]
   refine ⟨rfl,⟨by omega,by omega⟩,?_⟩;conv=>whnf
   refine ⟨_,C9 (B1X (l.getD i.toNat default) (l.getD (i - 1).toNat default) _),?_⟩;conv=>whnf
   rw [A9k]
   have e:A3v (skus l) i.toNat=!slt (l.getD i.toNat default).sku (l.getD (i - 1).toNat default).sku:=by
    unfold A3v
    rw [beq_false_of_ne (by omega),Bool.false_or,B2S l (by omega),B2S l (by omega),show i.toNat - 1=(i - 1).toNat by omega]
   refine C3 (fun h2=>?_) (fun h2=>?_)
   ·rw [h2] at e ⊢;conv=>whnf
    refine ⟨?_,rfl⟩
    rw [show A7o (skus l)=false from A3p (k:=i.toNat) (by omega) e];rfl
   ·rw [h2] at e ⊢;conv=>whnf
    refine ⟨rfl,?_⟩;conv=>whnf
    exact ⟨i.toNat,by omega,i - 1,by omega,by omega,fun k h1 h2=>by
     rcases (by omega:k=i.toNat∨i<k) with e' | e'
     ·rw [e'];exact e
     ·exact hok k e' h2,by omega,by rw [w],rfl⟩
theorem C1S (s:D7) (x:Ab.Item) (st:St):S P 207 [E3 x,.fptr (eS s) 0] st fun v st'=>v=.bool (x.sku.toList==s.toList)∧st'=st:=by
 refine A5 [2] B7 mixed Tryz.func207 (by rfl) rfl rfl rfl ?_;conv=>whnf
 exact ⟨rfl,rfl⟩
abbrev V8 (l:List Ab.Item) (s:D7):Int:=idx (fun x=>x.sku.toList==s.toList) l
theorem C1X {i j:Int} (hi:0≤i) (hij:i<j) (hj:j≤4611686018427387904):IntKind.i64.wrap ((IntKind.u64.wrap (IntKind.i64.wrap (i+j))).fdiv (2 ^ (min (1:Int).toNat IntKind.u64.bits)))=(i+j) / 2:=by
 rw [A9 (x:=i+j) (by omega) (by omega),B9 (x:=i+j) (by omega) (by omega)]
 rw [show (min (1:Int).toNat IntKind.u64.bits)=1 from rfl,Int.fdiv_eq_ediv_of_nonneg _ (by decide)]
 rw [show ((2:Int) ^ 1)=2 from rfl,A9 (x:=(i+j) / 2) (by omega) (by omega)]
theorem C0H (l:List Ab.Item) (x:Ab.Item) (hl:l.length≤4611686018427387904) (hs:A7o (skus l)=true) (st:St) :
  S P 208 [A7 4 E3 l,E3 x,.fn (.func 205) [] []] st fun v st'=>(∃ (i:Nat) (b:Bool),v=.tuple [eI i,.bool b]∧(if b=true then V8 l x.sku=i else V8 l x.sku = -1))∧st'=st:=by
 refine A5 [4] B7 mixed Tryz.func208 (by rfl) rfl rfl rfl ?_;conv=>whnf
 have hlen:(skus l).length=l.length:=List.length_map ..
 have hmono:∀ a b:Nat,a≤b→b<l.length→slt (l.getD b default).sku (l.getD a default).sku=false:=fun a b hab hb=>by
  have:=B4K (l:=skus l) (fun k hk=>List.all_eq_true.1 hs k (List.mem_range.2 hk)) hab (by omega)
  rwa [B2S l hb,B2S l (by omega)] at this
 refine ⟨[0,2,4,8,9,10],fun m vs st'=>∃ i j:Nat,i≤j∧j≤l.length∧(∀ k,k<i→slt (l.getD k default).sku x.sku=true)∧(∀ k,j≤k→k<l.length→slt (l.getD k default).sku x.sku=false)∧m=j - i ∧
  vs=[A7 4 E3 l,.fn (.func 205) [] [],.fptr (E3 x) 0,eI l.length,eI i,eI j]∧st'=st,?_,?_⟩
 ·conv=>whnf
  exact ⟨_,0,l.length,Nat.zero_le _,Nat.le_refl _,fun k hk=>absurd hk (by omega),fun k h1 h2=>absurd h1 (by omega),rfl,rfl,rfl⟩
 ·rintro m vs st' ⟨i,j,hij,hj,hlo,hhi,rfl,rfl,rfl⟩
  conv=>whnf
  cases h:decide ((i:Int)<(j:Int))
  ·have:=of_decide_eq_false h
   obtain rfl:i=j:=by omega
   conv=>whnf
   refine ⟨[],[],[0,1,2,3,4,5,6,7,8,9,10,11,12,13,14,15],by kernel_rfl,?_⟩;conv=>whnf
   have hne:∀ k,k<i→((l.getD k default).sku.toList==x.sku.toList)=false:=fun k hk=>by
    rw [beq_eq_false_iff_ne];intro e
    have:=hlo k hk
    unfold slt at this;rw [e,A2e] at this;cases this
   refine C3 (fun h1=>?_) (fun h1=>?_)<;>rw [h1]<;>simp only [decide_eq_true_eq,decide_eq_false_iff_not] at h1
   ·conv=>whnf
    refine ⟨rfl,⟨by omega,by omega⟩,?_⟩;conv=>whnf
    refine ⟨_,C9 (B1X (l.getD (i:Int).toNat default) x _),?_⟩;conv=>whnf
    rw [B7G]
    refine ⟨⟨i,(l.getD (i:Int).toNat default).sku.toList==x.sku.toList,rfl,?_⟩,rfl⟩
    split
    ·rename_i he
     exact A1i (by omega) hne he
    ·rename_i he
     rw [Bool.not_eq_true] at he
     have hlt:slt (l.getD i default).sku x.sku=false:=hhi i (Nat.le_refl _) (by omega)
     refine R3 fun k hk=>?_
     rcases Nat.lt_or_ge k i with hki | hki
     ·exact hne k hki
     ·rw [beq_eq_false_iff_ne];intro e
      have h3:=hmono i k hki hk
      rw [beq_eq_false_iff_ne] at he
      refine he (A5E hlt ?_)
      rw [←B1G (a:=(l.getD k default).sku) e rfl];exact h3
   ·conv=>whnf
    refine ⟨⟨i,false,rfl,?_⟩,rfl⟩
    rw [if_neg (by simp)]
    exact R3 fun k hk=>hne k (by omega)
  ·have hlt:=of_decide_eq_true h
   conv=>whnf
   rw [C1X (i:=i) (j:=j) (by omega) (by omega) (by omega)]
   have eh:((i:Int)+(j:Int)) / 2=(((i+j) / 2:Nat):Int):=by omega
   rw [eh]
   generalize hh:(i+j) / 2=mid at *
   refine ⟨[],[],[0,1,2,3,4,5,6,7],by kernel_rfl,?_⟩;conv=>whnf
   refine ⟨rfl,⟨by omega,by omega⟩,?_⟩;conv=>whnf
   refine ⟨_,C9 (B1X (l.getD (mid:Int).toNat default) x _),?_⟩;conv=>whnf
   rw [A9k]
   refine C3 (fun h1=>?_) (fun h1=>?_)
   ·have h1':slt (l.getD mid default).sku x.sku=true:=h1
    rw [h1];conv=>whnf
    refine ⟨rfl,?_⟩;conv=>whnf
    refine ⟨j - (mid+1),by omega,mid+1,j,by omega,hj,fun k hk=>?_,hhi,rfl,by rw [C0 (by omega)],rfl⟩
    cases hk2:slt (l.getD k default).sku x.sku with
    | true=>rfl
    | false =>
     have h3:=hmono k mid (by omega) (by omega)
     have:=A3u hk2 (show slt (l.getD mid default).sku (l.getD k default).sku=false from h3)
     rw [h1'] at this
     cases this
   ·have h1':slt (l.getD mid default).sku x.sku=false:=h1
    rw [h1];conv=>whnf
    refine ⟨rfl,?_⟩;conv=>whnf
    refine ⟨mid - i,by omega,i,mid,by omega,by omega,hlo,fun k h2 h3=>?_,rfl,rfl,rfl⟩
    exact A3u (b:=(l.getD mid default).sku) (by exact h1') (hmono mid k h2 h3)
theorem B5u (l:List Ab.Item) (s:D7) (hl:l.length≤4611686018427387904) (st:St):S P 120 [A7 4 E3 l,eS s] st fun v st'=>v=eI (V8 l s)∧st'=st:=by
 refine A5 [3,5] B7 mixed Tryz.func120 (by rfl) rfl rfl rfl ?_;conv=>whnf
 refine A4 (C0W l (by omega) _) ?_;conv=>whnf
 refine C3 (fun h=>?_) (fun h=>?_)
 ·rw [h];conv=>whnf
  refine A4 (B2l l (by omega) _ [.fptr (eS s) 0] (fun x=>x.sku.toList==s.toList) _ fun x _=>C1S s x _) ?_;conv=>whnf
  exact ⟨rfl,rfl⟩
 ·rw [h]
  have hs:A7o (skus l)=true:=by simpa using h
  conv=>whnf
  refine call (C0H l ⟨s,⟨#[]⟩,0,false⟩ hl hs _) (fun v st' hv=>?_)
  obtain ⟨⟨i,b,rfl,hb⟩,rfl⟩:=hv
  conv=>whnf
  cases b with
  | true =>
   conv=>whnf
   rw [if_pos rfl] at hb
   exact ⟨by rw [show V8 l s=i from hb];rfl,rfl⟩
  | false =>
   conv=>whnf
   rw [if_neg (by simp)] at hb
   exact ⟨by rw [show V8 l s = -1 from hb];rfl,rfl⟩
def I9 (l:List F0):Int:=l.foldl (fun s x=>s+x.qty) 0
def I0 (l:List F0):Int:=l.foldl (fun s x=>s+x.qty * x.price) 0
theorem Y8 (x:F0):lineC x=true↔(0≤x.qty∧x.qty≤100000)∧(0≤x.price∧x.price≤1000000000):=by
 simp [lineC,R7]
theorem A9z {x:F0} (h:lineC x=true):0≤x.qty * x.price∧x.qty * x.price≤100000000000000:=by
 obtain ⟨⟨a,b⟩,c,d⟩:=(Y8 x).1 h
 exact ⟨Int.mul_nonneg a c,Int.mul_le_mul b d c (by omega)⟩
theorem C4E (l:List F0) (hl:l.length≤1000) (hok:∀ x∈l,lineC x=true) (st:St):S P 280 [A7 3 E4 l] st fun v st'=>v=.tuple [eI (I9 l),eI (I0 l)]∧st'=st:=by
 refine A5 [7] B7 mixed Tryz.func280 (by rfl) rfl rfl rfl ?_;conv=>whnf
 refine ⟨[4,5,8,9,10],fun m vs st'=>∃ i:Nat,i≤l.length∧(0≤I9 (l.take i)∧I9 (l.take i)≤i * 100000)∧(0≤I0 (l.take i)∧I0 (l.take i)≤i * 100000000000000)∧m=l.length - i∧vs=[eI (I9 (l.take i)),eI (I0 (l.take i)),A7 3 E4 l,eI l.length,eI i]∧st'=st,?_,?_⟩
 ·conv=>whnf
  exact ⟨_,0,Nat.zero_le _,⟨Int.le_refl _,by simp [I9]⟩,⟨Int.le_refl _,by simp [I0]⟩,rfl,rfl,rfl⟩
 ·rintro m vs st' ⟨i,hi,hu,hg,rfl,rfl,rfl⟩
  conv=>whnf
  cases h:decide ((i:Int)<(l.length:Int))
  ·have:=of_decide_eq_false h
   obtain rfl:i=l.length:=by omega
   conv=>whnf
   refine ⟨?_,rfl⟩
   rw [List.take_length];rfl
  ·have hi':i<l.length:=by have:=of_decide_eq_true h;omega
   have hmem:l.getD (i:Int).toNat default∈l:=by
    rw [Int.toNat_natCast,List.getD_eq_getElem?_getD,List.getElem?_eq_getElem hi'];exact List.getElem_mem hi'
   have hx:=hok _ hmem
   obtain ⟨⟨q0,q1⟩,_⟩:=(Y8 _).1 hx
   obtain ⟨m0,m1⟩:=A9z hx
   have eu:I9 (l.take (i+1))=I9 (l.take i)+(l.getD (i:Int).toNat default).qty:=P1 hi' _ _
   have eg:I0 (l.take (i+1))=I0 (l.take i)+(l.getD (i:Int).toNat default).qty * (l.getD (i:Int).toNat default).price:=P1 hi' _ _
   have w1:IntKind.i64.wrap (I9 (l.take i)+(l.getD (i:Int).toNat default).qty)=I9 (l.take (i+1)):=by rw [eu];exact A9 (by omega) (by omega)
   have w2:IntKind.i64.wrap ((l.getD (i:Int).toNat default).qty * (l.getD (i:Int).toNat default).price)=(l.getD (i:Int).toNat default).qty * (l.getD (i:Int).toNat default).price:=A9 (by omega) (by omega)
   have w3:IntKind.i64.wrap (I0 (l.take i)+(l.getD (i:Int).toNat default).qty * (l.getD (i:Int).toNat default).price)=I0 (l.take (i+1)):=by rw [eg];exact A9 (by omega) (by omega)
   conv=>whnf
   refine ⟨rfl,⟨by omega,by omega⟩,?_⟩;conv=>whnf
   refine ⟨rfl,?_⟩;conv=>whnf
   refine ⟨l.length - (i+1),by omega,i+1,by omega,?_,?_,rfl,?_,rfl⟩
   ·rw [eu];omega
   ·rw [eg];omega
   ·rw [C0 (by omega),←w1,←w3,w2]
def I2 (kn:D7→Bool) (x:F0):Bool:=!(kn x.sku&&lineC x)
def H0 (kn:D7→Bool) (l:List F0):Int :=
 if l.length>1000 then 6 else match l.find? (I2 kn) with
  | some x=>if kn x.sku=true then 2 else 7
  | none=>if (decide (I9 l>100000)||decide (I0 l>10000000000000))=true then 5 else 0
theorem A3l {α : Type} [Inhabited α] {p : α→Bool} {l:List α} {i:Nat} (hi:i<l.length) (h:∀ k,k<i→p (l.getD k default)=false) (hp:p (l.getD i default)=true):l.find? p=some (l.getD i default):=by
 induction l generalizing i with
 | nil=>simp at hi
 | cons a l ih =>
  cases i with
  | zero=>simp only [List.getD_cons_zero] at hp ⊢;rw [List.find?_cons_of_pos hp]
  | succ i =>
   have h0:=h 0 (by omega)
   simp only [List.getD_cons_zero] at h0
   rw [List.find?_cons_of_neg (by simp [h0])]
   simp only [List.getD_cons_succ] at hp ⊢
   exact ih (by simpa using hi) (fun k hk=>by simpa using h (k+1) (by omega)) hp
theorem A7H {α : Type} [Inhabited α] {p : α→Bool} {l:List α} (h:∀ k,k<l.length→p (l.getD k default)=false):l.find? p=none:=by
 rw [List.find?_eq_none]
 intro x hx
 obtain ⟨i,hi,rfl⟩:=List.getElem_of_mem hx
 have:=h i hi
 simpa [hi] using this
theorem B4 {α : Type} [Inhabited α] {l:List α} {i:Nat} (hi:i<l.length):l.getD i default∈l:=by
 rw [List.getD_eq_getElem?_getD,List.getElem?_eq_getElem hi];exact List.getElem_mem hi
theorem F4 {α : Type} [Inhabited α] {l:List α} {x : α} (h:x∈l):∃ i,i<l.length∧x=l.getD i default:=by
 obtain ⟨i,hi,rfl⟩:=List.getElem_of_mem h
 exact ⟨i,hi,by simp [hi]⟩
theorem B6I (l:List F0) (kn:D7→Bool) (g:FuncId) (cs:List AV) (st:St) (hg:∀ x∈l,S P g (eS x.sku::cs) st fun v st'=>v=.bool (kn x.sku)∧st'=st) :
  S P 199 [A7 3 E4 l,.fn (.func g) [] cs] st fun v st'=>v=eI (H0 kn l)∧st'=st:=by
 refine A5 [6] B7 mixed Tryz.func199 (by rfl) rfl rfl rfl ?_;conv=>whnf
 refine C3 (fun h=>?_) (fun h=>?_)<;>rw [h]<;>simp only [decide_eq_true_eq,decide_eq_false_iff_not] at h
 ·conv=>whnf
  exact ⟨by rw [show H0 kn l=6 from if_pos (by omega)];rfl,rfl⟩
 have hs:l.length≤1000:=by omega
 have hc:H0 kn l=match l.find? (I2 kn) with
  | some x=>if kn x.sku=true then 2 else 7
  | none=>if (decide (I9 l>100000)||decide (I0 l>10000000000000))=true then 5 else 0:=if_neg (by omega)
 conv=>whnf
 refine ⟨[0,1,12,13,14],fun m vs st'=>∃ i:Nat,i≤l.length∧(∀ k,k<i→I2 kn (l.getD k default)=false)∧m=l.length - i∧vs=[A7 3 E4 l,.fn (.func g) [] cs,A7 3 E4 l,eI l.length,eI i]∧st'=st,?_,?_⟩
 ·conv=>whnf
  exact ⟨_,0,Nat.zero_le _,fun k hk=>absurd hk (by omega),rfl,rfl,rfl⟩
 ·rintro m vs st' ⟨i,hi,hok,rfl,rfl,rfl⟩
  conv=>whnf
  cases h:decide ((i:Int)<(l.length:Int))
  ·have:=of_decide_eq_false h
   rw [A7H fun k hk=>hok k (by omega)] at hc
   have hall:∀ x∈l,lineC x=true:=fun x hx=>by
    obtain ⟨k,hk,rfl⟩:=F4 hx
    have:=hok k (by omega)
    simp only [I2,Bool.not_eq_false',Bool.and_eq_true] at this
    exact this.2
   conv=>whnf
   refine A4 (C4E l hs hall _) ?_;conv=>whnf
   refine C3 (fun h1=>?_) (fun h1=>?_)
   ·rw [h1] at hc ⊢;conv=>whnf
    exact ⟨by rw [hc];rfl,rfl⟩
   ·rw [h1] at hc ⊢;conv=>whnf
    refine C3 (fun h2=>?_) (fun h2=>?_)
    ·rw [h2] at hc ⊢;conv=>whnf
     exact ⟨by rw [hc];rfl,rfl⟩
    ·rw [h2] at hc ⊢;conv=>whnf
     exact ⟨by rw [hc];rfl,rfl⟩
  ·have hi':i<l.length:=by have:=of_decide_eq_true h;omega
   have hmem:l.getD (i:Int).toNat default∈l:=B4 hi'
   conv=>whnf
   refine ⟨rfl,⟨by omega,by omega⟩,?_⟩;conv=>whnf
   refine A4 (hg _ hmem) ?_;conv=>whnf
   refine C3 (fun h1=>?_) (fun h1=>?_)
   ·have hk:kn (l.getD (i:Int).toNat default).sku=false:=by simpa using h1
    rw [h1];conv=>whnf
    rw [A3l hi' hok (by show I2 kn (l.getD (i:Int).toNat default)=true;unfold I2;rw [hk];rfl)] at hc
    simp only at hc
    rw [if_neg (by rw [show kn (l.getD i default).sku=false from hk];simp)] at hc
    exact ⟨by rw [hc];rfl,rfl⟩
   ·have hk:kn (l.getD (i:Int).toNat default).sku=true:=by simpa using h1
    rw [h1];conv=>whnf
    refine A4 (C3Y (l.getD (i:Int).toNat default) _) ?_;conv=>whnf
    refine C3 (fun h2=>?_) (fun h2=>?_)
    ·have hl:lineC (l.getD (i:Int).toNat default)=false:=by simpa using h2
     rw [h2];conv=>whnf
     rw [A3l hi' hok (by show I2 kn (l.getD (i:Int).toNat default)=true;unfold I2;rw [hl,Bool.and_false];rfl)] at hc
     simp only at hc
     rw [if_pos (show kn (l.getD i default).sku=true from hk)] at hc
     exact ⟨by rw [hc];rfl,rfl⟩
    ·have hl:lineC (l.getD (i:Int).toNat default)=true:=by simpa using h2
     rw [h2];conv=>whnf
     refine ⟨rfl,?_⟩;conv=>whnf
     exact ⟨l.length - (i+1),by omega,i+1,by omega,L7 hok (by show I2 kn (l.getD (i:Int).toNat default)=false;unfold I2;rw [hk,hl];rfl),rfl,by rw [C0 (by omega)],rfl⟩
theorem B9n (s:D7) (st:St):S P 238 [eS s] st fun v st'=>v=.bool true∧st'=st:=by
 refine A5 [] B7 mixed Tryz.func238 (by rfl) rfl rfl rfl ?_;conv=>whnf
 exact ⟨rfl,rfl⟩
theorem C5f (l:List F0) (st:St):S P 148 [A7 3 E4 l] st fun v st'=>v=.bool (H0 (fun _=>true) l==0)∧st'=st:=by
 refine A5 [] B7 mixed Tryz.func148 (by rfl) rfl rfl rfl ?_;conv=>whnf
 refine A4 (B6I l (fun _=>true) _ [] _ fun x _=>B9n x.sku _) ?_;conv=>whnf
 exact ⟨rfl,rfl⟩
theorem C2e (items:List Ab.Item) (hl:items.length≤4611686018427387904) (s:D7) (st:St):S P 200 [eS s,.fptr (A7 4 E3 items) 0] st fun v st'=>v=.bool (decide (V8 items s≥0))∧st'=st:=by
 refine A5 [] B7 mixed Tryz.func200 (by rfl) rfl rfl rfl ?_;conv=>whnf
 refine A4 (B5u items s hl _) ?_;conv=>whnf
 exact ⟨rfl,rfl⟩
def known (items:List Ab.Item) (s:D7):Bool:=decide (V8 items s≥0)
theorem B6B (items:List Ab.Item) (l:List F0) (hl:items.length≤4611686018427387904) (st:St):S P 109 [A7 4 E3 items,A7 3 E4 l] st fun v st'=>v=eI (H0 (known items) l)∧st'=st:=by
 refine A5 [2] B7 mixed Tryz.func109 (by rfl) rfl rfl rfl ?_;conv=>whnf
 refine A4 (B6I l (known items) _ [.fptr (A7 4 E3 items) 0] _ fun x _=>C2e items hl x.sku _) ?_;conv=>whnf
 exact ⟨rfl,rfl⟩
def C8 (items:List Ab.Item) (l:List F0):List Ab.Item:=l.map fun x=>items.getD (V8 items x.sku).toNat default
theorem B7U (items:List Ab.Item) (l:List F0) (hi:items.length≤4611686018427387904) (hl:l.length≤1000) (hk:∀ x∈l,known items x.sku=true) (st:St):S P 82 [A7 4 E3 items,A7 3 E4 l] st fun v st'=>v=A7 4 E3 (C8 items l)∧st'=st:=by
 have he:A7 4 E3 (C8 items l)=.arr 4 l.length (fun k=>E3 ((C8 items l).getD k default)):=by unfold A7;rw [show (C8 items l).length=l.length from List.length_map ..]
 rw [he]
 refine B9a (ty:=76) ?_
 refine A5 [7] B7 mixed Tryz.func82 (by rfl) rfl rfl rfl ?_;conv=>whnf
 refine ⟨[0,5,9,10,11],fun m vs st'=>∃ (i:Nat) (sv:AV),i≤l.length∧m=l.length - i∧vs=[A7 4 E3 items,sv,A7 3 E4 l,eI l.length,eI i]∧H7 76 4 (fun k=>E3 ((C8 items l).getD k default)) st i sv st',?_,?_⟩
 ·conv=>whnf
  exact ⟨_,0,.emp,Nat.zero_le _,rfl,rfl,H7.start _ _ _ _⟩
 ·rintro m vs st' ⟨i,sv,hi,rfl,rfl,hc⟩
  conv=>whnf
  cases h:decide ((i:Int)<(l.length:Int))
  ·have:=of_decide_eq_false h
   obtain rfl:i=l.length:=by omega
   conv=>whnf
   exact hc
  ·have hi':i<l.length:=by have:=of_decide_eq_true h;omega
   have hmem:l.getD (i:Int).toNat default∈l:=B4 hi'
   have hkn:=hk _ hmem
   simp only [known,decide_eq_true_eq] at hkn
   have hlt:=(A9u (fun x:Ab.Item=>x.sku.toList==(l.getD (i:Int).toNat default).sku.toList) items).2
   conv=>whnf
   refine ⟨rfl,⟨by omega,by omega⟩,?_⟩;conv=>whnf
   refine A4 (B5u items (l.getD (i:Int).toNat default).sku (by omega) _) ?_;conv=>whnf
   refine C3 (fun h1=>?_) (fun h1=>?_)
   ·exact absurd (of_decide_eq_true h1) (by omega)
   ·rw [h1];conv=>whnf
    refine ⟨rfl,⟨by omega,by omega⟩,?_⟩;conv=>whnf
    refine H7.app rfl rfl rfl rfl rfl ?_ (by show (i+1) * 48≤140737488355328;omega) hc (fun sv' st'' hc'=>?_)
    ·have e:(C8 items l).getD i default=items.getD (V8 items (l.getD i default).sku).toNat default:=D8 (fun x:F0=>items.getD (V8 items x.sku).toNat default) l hi'
     rw [e];rfl
    conv=>whnf
    refine ⟨rfl,?_⟩;conv=>whnf
    exact ⟨l.length - (i+1),by omega,i+1,sv',by omega,rfl,by rw [C0 (by omega)],hc'⟩
end Go.Proofs.YthdimklenlikgaaGreat
namespace Go.Ab
abbrev QE:=Int×Int
def H8 (a b:QE):Bool:=decide (a.1>b.1)||(a.1==b.1&&decide (a.2<b.2))
theorem A7U (a b:QE):H8 a b=true↔a.1>b.1∨(a.1=b.1∧a.2<b.2):=by simp [H8]
theorem T7 (a b:QE):H8 a b=false↔¬(a.1>b.1∨(a.1=b.1∧a.2<b.2)):=by rw [←A7U,Bool.not_eq_true]
theorem A0x {a b:QE} (h:H8 a b=true):H8 b a=false:=by rw [A7U] at h;rw [T7];omega
theorem A1Y (a:QE):H8 a a=false:=by rw [T7];omega
theorem A0v {a b c:QE} (h:H8 a b=false) (k:H8 b c=false):H8 a c=false:=by rw [T7] at *;omega
theorem C4b {a b c:QE} (h:H8 a b=false) (k:H8 c b=true):H8 a c=false:=by rw [T7] at *;rw [A7U] at k;omega
theorem A7V {a b:QE} (h:H8 a b=false) (k:H8 b a=false):a=b:=by
 rw [T7] at *
 exact Prod.ext (by omega) (by omega)
abbrev at_ (l:List QE) (k:Nat):QE:=l.getD k default
def swp (l:List QE) (i j:Nat):List QE:=(l.set i (at_ l j)).set j (at_ l i)
theorem B3c (l:List QE) (i j:Nat):(swp l i j).length=l.length:=by simp [swp]
theorem A6u {l:List QE} {i j:Nat} (hi:i<l.length) (hj:j<l.length) (k:Nat):at_ (swp l i j) k=if k=j then at_ l i else if k=i then at_ l j else at_ l k:=by
 unfold swp at_
 simp only [List.getD_eq_getElem?_getD,List.getElem?_set,List.length_set]
 by_cases h1:k=j
 ·subst h1;simp [hj]
 ·rw [if_neg (fun e=>h1 e.symm),if_neg h1]
  by_cases h2:k=i
  ·subst h2;simp [hi]
  ·rw [if_neg (fun e=>h2 e.symm),if_neg h2]
theorem B0q {l:List QE} {i j:Nat} (hi:i<l.length) (hj:j<l.length):(swp l i j).Perm l:=by
 have e1:at_ l j=l[j]:=by simp [at_,hj]
 have e2:at_ l i=l[i]:=by simp [at_,hi]
 unfold swp
 rw [e1,e2]
 exact List.set_set_perm hi hj
def Nah (l:List QE) (c p:Nat):Prop:=H8 (at_ l c) (at_ l p)=false
def W4 (c:Nat):Nat:=(c - 1) / 2
def A4w (l:List QE) (m:Nat):Prop:=∀ c,0<c→c<m→Nah l c (W4 c)
structure Rise (l:List QE) (m j:Nat):Prop where
 a:∀ c,0<c→c<m→c≠j→Nah l c (W4 c)
 b:∀ c,0<c→c<m→W4 c=j→0<j→Nah l c (W4 j)
structure Sink (l:List QE) (m i:Nat):Prop where
 a:∀ c,0<c→c<m→W4 c≠i→Nah l c (W4 c)
 b:∀ c,0<c→c<m→W4 c=i→0<i→Nah l c (W4 i)
theorem Rise.done {l:List QE} {m j:Nat} (h:Rise l m j) (hj:j=0∨Nah l j (W4 j)):A4w l m:=fun c h0 hc=>by
 by_cases e:c=j
 ·subst e;rcases hj with hj | hj
  ·omega
  ·exact hj
 ·exact h.a c h0 hc e
theorem Rise.step {l:List QE} {m j:Nat} (h:Rise l m j) (hm:m≤l.length) (hj:j<m) (h0:0<j) (ha:H8 (at_ l j) (at_ l (W4 j))=true):Rise (swp l (W4 j) j) m (W4 j):=by
 have hp:W4 j<j:=by unfold W4;omega
 have sw:=A6u (l:=l) (i:=W4 j) (j:=j) (by omega) (by omega)
 refine ⟨fun c hc0 hcm hne=>?_,fun c hc0 hcm hpc hp0=>?_⟩
 ·have hpc:W4 c<c:=by unfold W4;omega
  unfold Nah
  rw [sw c,sw (W4 c)]
  by_cases ecj:c=j
  ·subst ecj
   rw [if_pos rfl,if_neg (by omega),if_pos rfl]
   exact A0x ha
  ·rw [if_neg ecj,if_neg hne]
   by_cases epj:W4 c=j
   ·rw [if_pos epj];exact h.b c hc0 hcm epj h0
   ·rw [if_neg epj]
    by_cases epi:W4 c=W4 j
    ·rw [if_pos epi]
     have:=h.a c hc0 hcm ecj
     unfold Nah at this;rw [epi] at this
     exact C4b this ha
    ·rw [if_neg epi];exact h.a c hc0 hcm ecj
 ·have hpp:W4 (W4 j)<W4 j:=by unfold W4 at *;omega
  have hpj:=h.a (W4 j) hp0 (by omega) (by omega)
  unfold Nah at *
  rw [sw c,sw (W4 (W4 j)),if_neg (show ¬ W4 (W4 j)=j by omega),if_neg (show ¬ W4 (W4 j)=W4 j by omega)]
  by_cases ecj:c=j
  ·rw [if_pos ecj];exact hpj
  ·rw [if_neg ecj,if_neg (show ¬ c=W4 j by unfold W4 at *;omega)]
   have:=h.a c hc0 hcm ecj
   unfold Nah at this;rw [hpc] at this
   exact A0v this hpj
theorem Sink.done {l:List QE} {m i:Nat} (h:Sink l m i) (hc:∀ c,0<c→c<m→W4 c=i→Nah l c i):A4w l m:=fun c h0 hcm=>by
 by_cases e:W4 c=i
 ·rw [e];exact hc c h0 hcm e
 ·exact h.a c h0 hcm e
theorem Sink.step {l:List QE} {m i j:Nat} (h:Sink l m i) (hm:m≤l.length) (hj:j<m) (h0:0<j) (hp:W4 j=i) (ha:H8 (at_ l j) (at_ l i)=true)
  (hb:∀ c,0<c→c<m→W4 c=i→Nah l c j):Sink (swp l i j) m j:=by
 have hij:i<j:=by rw [←hp];unfold W4;omega
 have sw:=A6u (l:=l) (i:=i) (j:=j) (by omega) (by omega)
 refine ⟨fun c hc0 hcm hne=>?_,fun c hc0 hcm hpc hp0=>?_⟩
 ·have hpc:W4 c<c:=by unfold W4;omega
  unfold Nah
  rw [sw c,sw (W4 c),if_neg hne]
  by_cases ecj:c=j
  ·subst ecj
   rw [if_pos rfl,if_pos hp]
   exact A0x ha
  ·rw [if_neg ecj]
   by_cases epi:W4 c=i
   ·rw [if_pos epi,if_neg (by omega)]
    exact hb c hc0 hcm epi
   ·rw [if_neg epi]
    by_cases eci:c=i
    ·rw [if_pos eci]
     subst eci
     exact h.b j h0 hj hp hc0
    ·rw [if_neg eci];exact h.a c hc0 hcm epi
 ·have:j<c:=by unfold W4 at hpc;omega
  unfold Nah
  rw [hp,sw c,sw i,if_neg (show ¬ c=j by omega),if_neg (show ¬ c=i by omega),if_neg (show ¬ i=j by omega),if_pos rfl]
  have:=h.a c hc0 hcm (by omega)
  unfold Nah at this;rw [hpc] at this;exact this
theorem A4w.top {l:List QE} {m:Nat} (h:A4w l m):∀ k,k<m→Nah l k 0:=by
 intro k
 induction k using Nat.strongRecOn with
 | _ k ih =>
  intro hk
  rcases Nat.eq_zero_or_pos k with e | e
  ·subst e;exact A1Y _
  ·have hp:W4 k<k:=by unfold W4;omega
   exact A0v (h k e hk) (ih (W4 k) hp (by omega))
theorem A4w.up {l:List QE} {m:Nat} (h:A4w l m) (x:QE) (hm:m=l.length):Rise (l++[x]) (m+1) m:=by
 have old:∀ k,k<m→at_ (l++[x]) k=at_ l k:=fun k hk=>by
  unfold at_;rw [List.getD_eq_getElem?_getD,List.getD_eq_getElem?_getD,List.getElem?_append_left (by omega)]
 refine ⟨fun c h0 hc hne=>?_,fun c h0 hc hpc hm0=>?_⟩
 ·have hp:W4 c<c:=by unfold W4;omega
  unfold Nah
  rw [old c (by omega),old (W4 c) (by omega)]
  exact h c h0 (by omega)
 ·unfold W4 at hpc;omega
theorem A4w.down {l:List QE} {m:Nat} (h:A4w l (m+1)) (hm:m<l.length):Sink (swp l 0 m) m 0:=by
 have sw:=A6u (l:=l) (i:=0) (j:=m) (by omega) (by omega)
 refine ⟨fun c h0 hc hne=>?_,fun c h0 hc hpc h00=>by omega⟩
 have hp:W4 c<c:=by unfold W4;omega
 unfold Nah
 rw [sw c,sw (W4 c),if_neg (by omega),if_neg (by omega),if_neg (by omega),if_neg hne]
 exact h c h0 (by omega)
end Go.Ab
namespace Go.Proofs.YthdimklenlikgaaGreat
open Go Go.Ab
attribute [local irreducible] upd del
def A6U (x:QE):AV:=.agg [eI x.1,eI x.2]
def A2j (st:St) (b:Nat) (l:List QE):Prop:=∃ f,st b=some ⟨300,2,l.length,f⟩∧∀ k,k<l.length→f k=A6U (at_ l k)
theorem A9x (b:Nat) (l:List QE) (n i j:Nat) (st:St) (h:A2j st b l) (hn:n≤l.length) (hi:i<n) (hj:j<n) :
  S P 374 [.own 2 b 0 n,eI i,eI j] st fun v st'=>v=.bool (H8 (at_ l i) (at_ l j))∧st'=st:=by
 obtain ⟨f,hst,hf⟩:=h
 refine A5 [] B7 mixed Tryz.func374 (by rfl) rfl rfl rfl ?_;conv=>whnf
 refine ⟨[],[],[0,1,2,3,4,5,6,7,8,9,10,11,12,13,14,15,16,17,18,19,20,21,22,23,24,25,26,27,28,29,30,31,32,33,34,35,36,37],by kernel_rfl,?_⟩;conv=>whnf
 have fi:f (0+(i:Int).toNat)=A6U (at_ l i):=by rw [Nat.zero_add];exact hf i (by omega)
 have fj:f (0+(j:Int).toNat)=A6U (at_ l j):=by rw [Nat.zero_add];exact hf j (by omega)
 have li:0+(i:Int).toNat<l.length:=by omega
 have lj:0+(j:Int).toNat<l.length:=by omega
 refine ⟨rfl,⟨by omega,by omega⟩,?_⟩;conv=>whnf
 refine E9 hst rfl li fi ?_;conv=>whnf
 refine ⟨rfl,⟨by omega,by omega⟩,?_⟩;conv=>whnf
 refine E9 hst rfl lj fj ?_;conv=>whnf
 unfold H8
 refine C3 (fun h1=>?_) (fun h1=>?_)<;>rw [h1]
 ·conv=>whnf
  exact ⟨rfl,rfl⟩
 conv=>whnf
 refine ⟨rfl,⟨by omega,by omega⟩,?_⟩;conv=>whnf
 refine E9 hst rfl li fi ?_;conv=>whnf
 refine ⟨rfl,⟨by omega,by omega⟩,?_⟩;conv=>whnf
 refine E9 hst rfl lj fj ?_;conv=>whnf
 refine C3 (fun h2=>?_) (fun h2=>?_)<;>rw [h2]
 ·conv=>whnf
  refine ⟨rfl,⟨by omega,by omega⟩,?_⟩;conv=>whnf
  refine E9 hst rfl li fi ?_;conv=>whnf
  refine ⟨rfl,⟨by omega,by omega⟩,?_⟩;conv=>whnf
  refine E9 hst rfl lj fj ?_;conv=>whnf
  exact ⟨rfl,rfl⟩
 ·conv=>whnf
  exact ⟨rfl,rfl⟩
theorem len_S (b n:Nat) (st:St):S P 373 [.own 2 b 0 n] st fun v st'=>v=eI n∧st'=st:=by
 refine A5 [] B7 mixed Tryz.func373 (by rfl) rfl rfl rfl ?_;conv=>whnf
 exact ⟨rfl,rfl⟩
theorem B6l (b:Nat) (l:List QE) (n i j:Nat) (st:St) (h:A2j st b l) (hn:n≤l.length) (hi:i<n) (hj:j<n) :
  S P 375 [.own 2 b 0 n,eI i,eI j] st fun v st'=>v=.tuple []∧A2j st' b (swp l i j)∧∀ c,c≠b→st' c=st c:=by
 obtain ⟨f,hst,hf⟩:=h
 refine A5 [] B7 mixed Tryz.func375 (by rfl) rfl rfl rfl ?_;conv=>whnf
 have fi:f (0+(i:Int).toNat)=A6U (at_ l i):=by rw [Nat.zero_add];exact hf i (by omega)
 have fj:f (0+(j:Int).toNat)=A6U (at_ l j):=by rw [Nat.zero_add];exact hf j (by omega)
 have li:0+(i:Int).toNat<l.length:=by omega
 have lj:0+(j:Int).toNat<l.length:=by omega
 have ei:0+(i:Int).toNat=i:=by omega
 have ej:0+(j:Int).toNat=j:=by omega
 have hfj:G5 f (0+(i:Int).toNat) (P3 (A6U (at_ l i)) 0 (cellsOf (A6U (at_ l j)))) (0+(j:Int).toNat)=A6U (at_ l j):=by
  by_cases h:j=i
  ·subst h;rw [A2];rfl
  ·rw [G2 (by omega)];exact fj
 refine ⟨[13,15],[],[0,1,2,3,4,5,6,7,8,9,10,11,12,13,14,15],by kernel_rfl,?_⟩;conv=>whnf
 refine ⟨rfl,⟨by omega,by omega⟩,?_⟩;conv=>whnf
 refine E9 hst rfl lj fj ?_;conv=>whnf
 refine ⟨rfl,⟨by omega,by omega⟩,?_⟩;conv=>whnf
 refine E9 hst rfl li fi ?_;conv=>whnf
 refine ⟨rfl,⟨by omega,by omega⟩,?_⟩;conv=>whnf
 refine K4 hst rfl li fi (by rfl) ?_;conv=>whnf
 refine ⟨rfl,⟨by omega,by omega⟩,?_⟩;conv=>whnf
 refine K4 (v:=A6U (at_ l j)) (A0 ..) rfl lj hfj (by rfl) ?_;conv=>whnf
 refine ⟨rfl,⟨_,by rw [A0,B3c],fun k hk=>?_⟩,fun c hc=>by rw [A8 hc,A8 hc]⟩
 rw [B3c] at hk
 rw [A6u (by omega) (by omega)]
 by_cases h1:k=j
 ·subst h1
  rw [if_pos rfl,ej,A2];rfl
 ·rw [if_neg h1,G2 (by omega)]
  by_cases h2:k=i
  ·subst h2
   rw [if_pos rfl,ei,A2];rfl
  ·rw [if_neg h2,G2 (by omega)];exact hf k hk
def A3z (st:St) (q:Nat) (sv:AV):Prop:=∃ f,st q=some ⟨296,1,1,f⟩∧f 0=.agg [sv]
abbrev hI (q:Nat):AV:=.iface 298 (.optr 1 q 0 0)
theorem A3z.frame {st st':St} {q b:Nat} {sv:AV} (h:A3z st q sv) (hqb:q≠b) (hf:∀ c,c≠b→st' c=st c):A3z st' q sv:=by
 obtain ⟨f,h1,h2⟩:=h
 exact ⟨f,by rw [hf q hqb];exact h1,h2⟩
theorem C8r (j:Nat) (hj:j<4611686018427387904):IntKind.i64.wrap ((IntKind.i64.wrap ((j:Int) - 1)).tdiv 2)=((W4 j:Nat):Int):=by
 rw [A9 (x:=(j:Int) - 1) (by omega) (by omega)]
 unfold W4
 rcases Nat.eq_zero_or_pos j with e | e
 ·subst e;rfl
 ·rw [Int.tdiv_eq_ediv_of_nonneg (by omega),A9 (by omega) (by omega)];omega
theorem C5a (q b:Nat) (l:List QE) (j:Nat) (st:St) (hq:A3z st q (.own 2 b 0 l.length)) (hqb:q≠b) (he:A2j st b l) (hr:Ab.Rise l l.length j) (hj:j<l.length) (hl:l.length<4611686018427387904) :
  S P 287 [hI q,eI j] st fun v st'=>v=.tuple []∧∃ l',l'.Perm l∧A4w l' l.length∧A2j st' b l'∧∀ c,c≠b→st' c=st c:=by
 refine A5 [] B7 mixed Tryz.func287 (by rfl) rfl rfl rfl ?_;conv=>whnf
 refine ⟨[0,1],fun m vs st'=>∃ (j:Nat) (l':List QE),l'.Perm l∧A2j st' b l'∧(∀ c,c≠b→st' c=st c)∧Ab.Rise l' l.length j∧j<l.length∧m=j∧vs=[hI q,eI j],?_,?_⟩
 ·conv=>whnf
  exact ⟨_,j,l,List.Perm.refl _,he,fun c _=>rfl,hr,hj,rfl,rfl⟩
 ·clear hr hj he
  rintro j vs st' ⟨_,l',hp,he,hfr,hr,hj,rfl,rfl⟩
  have hlen:l'.length=l.length:=hp.length_eq
  obtain ⟨f,hqs,hq0⟩:=hq.frame hqb hfr
  have hpj:W4 j≤j:=by unfold W4;omega
  conv=>whnf
  rw [C8r j (by omega)]
  refine C3 (fun h1=>?_) (fun h1=>?_)<;>rw [h1]
  ·have:j=0:=by
    have:=of_decide_eq_true h1
    unfold W4 at this;omega
   conv=>whnf
   exact ⟨rfl,l',hp,hr.done (.inl this),he,hfr⟩
  ·have hj0:0<j:=by
    rcases Nat.eq_zero_or_pos j with e | e
    ·subst e;cases h1
    ·exact e
   conv=>whnf
   refine E9 hqs rfl (by omega) hq0 ?_;conv=>whnf
   refine A4 (A9x b l' l.length j (W4 j) _ he (by omega) (by omega) (by omega)) ?_;conv=>whnf
   refine C3 (fun h2=>?_) (fun h2=>?_)<;>rw [h2]
   ·conv=>whnf
    exact ⟨rfl,l',hp,hr.done (.inr (by have:=h2;simp only [Bool.not_eq_true'] at this;exact this)),he,hfr⟩
   ·have h2':H8 (at_ l' j) (at_ l' (W4 j))=true:=by have:=h2;simp only [Bool.not_eq_false'] at this;exact this
    have hlt:W4 j<j:=by unfold W4;omega
    conv=>whnf
    refine E9 hqs rfl (by omega) hq0 ?_;conv=>whnf
    refine call (B6l b l' l.length (W4 j) j _ he (by omega) (by omega) (by omega)) (fun v st'' hv=>?_)
    obtain ⟨rfl,he',hfr'⟩:=hv
    conv=>whnf
    refine ⟨rfl,?_⟩;conv=>whnf
    exact ⟨W4 j,hlt,W4 j,swp l' (W4 j) j,(B0q (by omega) (by omega)).trans hp,he',fun c hc=>(hfr' c hc).trans (hfr c hc),hr.step (by omega) hj hj0 h2',by omega,rfl,rfl⟩
theorem j1W (i:Nat) (hi:i<2305843009213693952):IntKind.i64.wrap (IntKind.i64.wrap (2 * (i:Int))+1)=((2 * i+1:Nat):Int):=by
 rw [A9 (x:=2 * (i:Int)) (by omega) (by omega),A9 (by omega) (by omega)];omega
theorem C1Y (q b:Nat) (l:List QE) (n m:Nat) (st:St) (hq:A3z st q (.own 2 b 0 n)) (hqb:q≠b) (he:A2j st b l) (hs:Ab.Sink l m 0) (hmn:m≤n) (hn:n≤l.length) (hl:l.length<2305843009213693952) :
  S P 288 [hI q,eI 0,eI m] st fun v st'=>(∃ x,v=.bool x)∧∃ l',l'.Perm l∧(∀ k,m≤k→at_ l' k=at_ l k)∧A4w l' m∧A2j st' b l'∧∀ c,c≠b→st' c=st c:=by
 refine A5 [] B7 mixed Tryz.func288 (by rfl) rfl rfl rfl ?_;conv=>whnf
 refine ⟨[0,1,2,7],fun t vs st'=>∃ (i:Nat) (l':List QE),l'.Perm l∧(∀ k,m≤k→at_ l' k=at_ l k)∧A2j st' b l'∧(∀ c,c≠b→st' c=st c)∧Ab.Sink l' m i∧i≤l.length∧t=l.length - i∧vs=[hI q,eI 0,eI m,eI i],?_,?_⟩
 ·conv=>whnf
  exact ⟨_,0,l,List.Perm.refl _,fun _ _=>rfl,he,fun c _=>rfl,hs,Nat.zero_le _,rfl,rfl⟩
 ·clear hs he
  rintro t vs st' ⟨i,l',hp,hk,he,hfr,hs,hi,rfl,rfl⟩
  have hlen:l'.length=l.length:=hp.length_eq
  obtain ⟨f,hqs,hq0⟩:=hq.frame hqb hfr
  have kid:∀ c,0<c→(W4 c=i↔c=2 * i+1∨c=2 * i+2):=fun c hc=>by unfold W4;omega
  conv=>whnf
  rw [j1W i (by omega)]
  refine C3 (fun h1=>?_) (fun h1=>?_)<;>rw [h1]<;>simp only [decide_eq_true_eq,decide_eq_false_iff_not] at h1
  ·conv=>whnf
   exact ⟨⟨_,rfl⟩,l',hp,hk,hs.done (fun c hc0 hcm hpc=>by have:=(kid c hc0).1 hpc;omega),he,hfr⟩
  have him:2 * i+1<m:=by omega
  conv=>whnf
  have w2:IntKind.i64.wrap (((2 * i+1:Nat):Int)+1)=((2 * i+2:Nat):Int):=by rw [A9 (by omega) (by omega)];omega
  rw [w2]
  -- behind the choice of a child
  have tail:∀ (j:Nat),0<j→j<m→W4 j=i→(∀ c,0<c→c<m→W4 c=i→Nah l' c j)→∀ (K:KK),(∀ v st'' l'',v=.tuple []→l''.Perm l→(∀ k,m≤k→at_ l'' k=at_ l k)→A2j st'' b l''→(∀ c,c≠b→st'' c=st c)→H8 (at_ l' j) (at_ l' i)=true→Ab.Sink l'' m j→K v st'')→H8 (at_ l' j) (at_ l' i)=true→A1C P 375 [.own 2 b 0 n,eI i,eI j] st' K:=by
   intro j hj0 hjm hpj hbest K hK hpr
   have hij:i<j:=by rw [←hpj];unfold W4;omega
   refine call (B6l b l' n i j _ he (by omega) (by omega) (by omega)) (fun v st'' hv=>?_)
   obtain ⟨rfl,he',hfr'⟩:=hv
   refine hK _ _ (swp l' i j) rfl ((B0q (by omega) (by omega)).trans hp) (fun k hkm=>?_) he' (fun c hc=>(hfr' c hc).trans (hfr c hc)) hpr (hs.step (by omega) hjm hj0 hpj hpr hbest)
   rw [A6u (by omega) (by omega),if_neg (by omega),if_neg (by omega)];exact hk k hkm
  refine C3 (fun h3=>?_) (fun h3=>?_)<;>rw [h3]<;>simp only [decide_eq_true_eq,decide_eq_false_iff_not] at h3
  ·conv=>whnf
   refine E9 hqs rfl (by omega) hq0 ?_;conv=>whnf
   refine A4 (A9x b l' n (2 * i+2) (2 * i+1) _ he (by omega) (by omega) (by omega)) ?_;conv=>whnf
   refine C3 (fun h4=>?_) (fun h4=>?_)<;>rw [h4]
   ·have hbest:∀ c,0<c→c<m→W4 c=i→Nah l' c (2 * i+2):=fun c hc0 hcm hpc=>by
     rcases (kid c hc0).1 hpc with e | e
     ·subst e;exact A0x h4
     ·subst e;exact A1Y _
    conv=>whnf
    refine E9 hqs rfl (by omega) hq0 ?_;conv=>whnf
    refine A4 (A9x b l' n (2 * i+2) i _ he (by omega) (by omega) (by omega)) ?_;conv=>whnf
    refine C3 (fun h5=>?_) (fun h5=>?_)<;>rw [h5]
    ·conv=>whnf
     exact ⟨⟨_,rfl⟩,l',hp,hk,hs.done (fun c hc0 hcm hpc=>A0v (hbest c hc0 hcm hpc) (show Nah l' (2 * i+2) i by have:=h5;simp only [Bool.not_eq_true'] at this;exact this)),he,hfr⟩
    ·conv=>whnf
     refine E9 hqs rfl (by omega) hq0 ?_;conv=>whnf
     refine tail (2 * i+2) (by omega) (by omega) ((kid _ (by omega)).2 (.inr rfl)) hbest _ (fun v st'' l'' hv hp' hk' he' hfr' hpr hs'=>?_) (by have:=h5;simp only [Bool.not_eq_false'] at this;exact this)
     subst hv;conv=>whnf
     refine ⟨rfl,?_⟩;conv=>whnf
     exact ⟨l.length - (2 * i+2),by omega,2 * i+2,l'',hp',hk',he',hfr',hs',by omega,rfl,rfl⟩
   ·have hbest:∀ c,0<c→c<m→W4 c=i→Nah l' c (2 * i+1):=fun c hc0 hcm hpc=>by
     rcases (kid c hc0).1 hpc with e | e
     ·subst e;exact A1Y _
     ·subst e;exact h4
    conv=>whnf
    refine E9 hqs rfl (by omega) hq0 ?_;conv=>whnf
    refine A4 (A9x b l' n (2 * i+1) i _ he (by omega) (by omega) (by omega)) ?_;conv=>whnf
    refine C3 (fun h5=>?_) (fun h5=>?_)<;>rw [h5]
    ·conv=>whnf
     exact ⟨⟨_,rfl⟩,l',hp,hk,hs.done (fun c hc0 hcm hpc=>A0v (hbest c hc0 hcm hpc) (show Nah l' (2 * i+1) i by have:=h5;simp only [Bool.not_eq_true'] at this;exact this)),he,hfr⟩
    ·conv=>whnf
     refine E9 hqs rfl (by omega) hq0 ?_;conv=>whnf
     refine tail (2 * i+1) (by omega) (by omega) ((kid _ (by omega)).2 (.inl rfl)) hbest _ (fun v st'' l'' hv hp' hk' he' hfr' hpr hs'=>?_) (by have:=h5;simp only [Bool.not_eq_false'] at this;exact this)
     subst hv;conv=>whnf
     refine ⟨rfl,?_⟩;conv=>whnf
     exact ⟨l.length - (2 * i+1),by omega,2 * i+1,l'',hp',hk',he',hfr',hs',by omega,rfl,rfl⟩
  ·have hbest:∀ c,0<c→c<m→W4 c=i→Nah l' c (2 * i+1):=fun c hc0 hcm hpc=>by
    rcases (kid c hc0).1 hpc with e | e
    ·subst e;exact A1Y _
    ·omega
   conv=>whnf
   refine E9 hqs rfl (by omega) hq0 ?_;conv=>whnf
   refine A4 (A9x b l' n (2 * i+1) i _ he (by omega) (by omega) (by omega)) ?_;conv=>whnf
   refine C3 (fun h5=>?_) (fun h5=>?_)<;>rw [h5]
   ·conv=>whnf
    exact ⟨⟨_,rfl⟩,l',hp,hk,hs.done (fun c hc0 hcm hpc=>A0v (hbest c hc0 hcm hpc) (show Nah l' (2 * i+1) i by have:=h5;simp only [Bool.not_eq_true'] at this;exact this)),he,hfr⟩
   ·conv=>whnf
    refine E9 hqs rfl (by omega) hq0 ?_;conv=>whnf
    refine tail (2 * i+1) (by omega) (by omega) ((kid _ (by omega)).2 (.inl rfl)) hbest _ (fun v st'' l'' hv hp' hk' he' hfr' hpr hs'=>?_) (by have:=h5;simp only [Bool.not_eq_false'] at this;exact this)
    subst hv;conv=>whnf
    refine ⟨rfl,?_⟩;conv=>whnf
    exact ⟨l.length - (2 * i+1),by omega,2 * i+1,l'',hp',hk',he',hfr',hs',by omega,rfl,rfl⟩
theorem A2j.frame {st st':St} {b c:Nat} {l:List QE} (h:A2j st b l) (hc:c≠b) (hf:∀ a,a≠c→st' a=st a):A2j st' b l:=by
 obtain ⟨f,h1,h2⟩:=h
 exact ⟨f,by rw [hf b (fun e=>hc e.symm)];exact h1,h2⟩
theorem C3Q (q b:Nat) (l:List QE) (n:Nat) (st:St) (hq:A3z st q (.own 2 b 0 (n+1))) (hqb:q≠b) (he:A2j st b l) (hn:n<l.length) (hl:l.length<2305843009213693952) :
  S P 376 [.optr 1 q 0 0] st fun v st'=>v=.iface 300 (A6U (at_ l n))∧A3z st' q (.own 2 b 0 n)∧∀ c,c≠q→st' c=st c:=by
 obtain ⟨fq,hqs,hq0⟩:=hq
 obtain ⟨f,hst,hf⟩:=he
 refine A5 [4] B7 mixed Tryz.func376 (by rfl) rfl rfl rfl ?_;conv=>whnf
 refine E9 hqs rfl (by omega) hq0 ?_;conv=>whnf
 have w:IntKind.i64.wrap (((n+1:Nat):Int) - 1)=(n:Int):=by rw [A9 (by omega) (by omega)];omega
 rw [w]
 refine E9 hqs rfl (by omega) hq0 ?_;conv=>whnf
 refine ⟨rfl,⟨by omega,by omega⟩,?_⟩;conv=>whnf
 refine E9 hst rfl (by omega) (v:=A6U (at_ l n)) (by rw [show 0+(n:Int).toNat=n by omega];exact hf n hn) ?_;conv=>whnf
 refine E9 hqs rfl (by omega) hq0 ?_;conv=>whnf
 refine ⟨rfl,⟨by omega,by omega,by omega⟩,.inl rfl,?_⟩;conv=>whnf
 refine K4 hqs rfl (by omega) hq0 (by rfl) ?_;conv=>whnf
 refine ⟨rfl,⟨_,A0 ..,?_⟩,fun c hc=>by rw [A8 hc]⟩
 rw [A2]
 show AV.agg [AV.own 2 b _ _]=_
 congr 3<;>simp
theorem C1Q (q:Nat) (sv:AV) (l:List QE) (x:QE) (st st0:St) (hq:A3z st q sv) (h0:st0 q=none) (hsup:F2 st0 st) (hl:l.length<2305843009213)
  (hs:(l=[]∧sv=.emp)∨∃ b,q≠b∧st0 b=none∧sv=.own 2 b 0 l.length∧A2j st b l) :
  S P 377 [.optr 1 q 0 0,.iface 300 (A6U x)] st fun v st'=>v=.tuple []∧∃ b,q≠b∧st0 b=none∧A3z st' q (.own 2 b 0 (l.length+1))∧A2j st' b (l++[x])∧F2 st0 st':=by
 obtain ⟨fq,hqs,hq0⟩:=hq
 refine A5 [] B7 mixed Tryz.func377 (by rfl) rfl rfl rfl ?_;conv=>whnf
 intro c hc
 have hcq:q≠c:=fun e=>by subst e;rw [hqs] at hc;cases hc
 conv=>whnf
 refine K4 (A0 ..) rfl (by omega) rfl (by rfl) ?_;conv=>whnf
 refine ⟨[6,8],[],[0,1,2,3,4,5,6,7,8],by kernel_rfl,?_⟩;conv=>whnf
 refine E9 (by rw [A8 hcq,A8 hcq];exact hqs) rfl (by omega) hq0 ?_;conv=>whnf
 have hc0:st0 c=none:=hsup.none hc
 rcases hs with ⟨rfl,rfl⟩ | ⟨b,hqb,hb0,rfl,f,hst,hf⟩
 ·conv=>whnf
  refine E9 (A0 ..) rfl (by omega) rfl ?_;conv=>whnf
  refine ⟨_,⟨rfl,rfl⟩,?_⟩;conv=>whnf
  refine apE rfl rfl rfl rfl (A6r ..) (by show 1 * 16≤_;omega) (fun h=>absurd h (by omega)) (fun _ b hb=>?_)
  have hbq:b≠q:=fun e=>by subst e;rw [A8 hcq,A8 hcq,hqs] at hb;cases hb
  have hbc:b≠c:=fun e=>by subst e;rw [A0] at hb;cases hb
  have hb':st b=none:=by rw [A8 hbc,A8 hbc] at hb;exact hb
  conv=>whnf
  refine K4 (by rw [A8 hbq.symm,A8 hcq,A8 hcq];exact hqs) rfl (by omega) hq0 (by rfl) ?_;conv=>whnf
  refine ⟨rfl,b,hbq.symm,hsup.none hb',⟨_,A0 ..,by rw [A2];rfl⟩,⟨_,by rw [A8 hbq,A0];rfl,fun k hk=>?_⟩,?_⟩
  ·have:k=0:=by simpa using hk
   subst this;rfl
  ·exact (((hsup.over hc0).over hc0).over (hsup.none hb')).over h0
 ·have hbc:b≠c:=fun e=>by subst e;rw [hst] at hc;cases hc
  conv=>whnf
  refine E9 (A0 ..) rfl (by omega) rfl ?_;conv=>whnf
  refine ⟨_,⟨rfl,rfl⟩,?_⟩;conv=>whnf
  refine apO (q:=C4m) (n:=l.length) rfl rfl rfl rfl (A6r ..) (by rw [A8 hbc,A8 hbc];exact hst) rfl rfl rfl (by show (l.length+1) * 16≤_;omega) (fun h=>absurd h (by omega)) (fun _ b' hb'=>?_)
  have hb'q:b'≠q:=fun e=>by
   subst e
   rcases hb' with e | e
   ·exact hqb e
   ·rw [A8 hcq,A8 hcq,hqs] at e;cases e
  have hb'0:st0 b'=none:=by
   rcases hb' with rfl | e
   ·exact hb0
   ·by_cases hbc':b'=c
    ·subst hbc';exact hc0
    ·rw [A8 hbc',A8 hbc'] at e;exact hsup.none e
  conv=>whnf
  refine K4 (by rw [A8 hb'q.symm];unfold del;rw [if_neg hqb,A8 hcq,A8 hcq];exact hqs) rfl (by omega) hq0 (by rfl) ?_;conv=>whnf
  refine ⟨rfl,b',hb'q.symm,hb'0,⟨_,A0 ..,by rw [A2];rfl⟩,⟨_,by rw [A8 hb'q,A0,List.length_append];rfl,fun k hk=>?_⟩,?_⟩
  ·rw [List.length_append] at hk
   simp only [List.length_cons,List.length_nil] at hk
   unfold at_
   by_cases hkl:k<l.length
   ·simp only [hkl,if_true]
    rw [hf k hkl,List.getD_eq_getElem?_getD,List.getElem?_append_left hkl,←List.getD_eq_getElem?_getD]
   ·have:k=l.length:=by omega
    subst this
    simp only [Nat.lt_irrefl,if_false,Nat.sub_self]
    rw [show (l++[x]).getD l.length default=x by simp [List.getD_eq_getElem?_getD]]
    rfl
  ·exact ((((hsup.over hc0).over hc0).del hb0).over hb'0).over h0
theorem C1Z (q:Nat) (sv:AV) (l:List QE) (x:QE) (st st0:St) (hq:A3z st q sv) (h0:st0 q=none) (hsup:F2 st0 st) (hl:l.length<2305843009213) (hh:A4w l l.length)
  (hs:(l=[]∧sv=.emp)∨∃ b,q≠b∧st0 b=none∧sv=.own 2 b 0 l.length∧A2j st b l) :
  S P 240 [hI q,.iface 300 (A6U x)] st fun v st'=>v=.tuple []∧∃ b l',q≠b∧st0 b=none∧l'.Perm (l++[x])∧A4w l' l'.length∧A3z st' q (.own 2 b 0 l'.length)∧A2j st' b l'∧F2 st0 st':=by
 refine A5 [] B7 mixed Tryz.func240 (by rfl) rfl rfl rfl ?_;conv=>whnf
 refine call (C1Q q sv l x st st0 hq h0 hsup hl hs) (fun v st' hv=>?_)
 obtain ⟨rfl,b,hqb,hb0,⟨fq,hqs,hq0⟩,he,hsup'⟩:=hv
 conv=>whnf
 refine E9 hqs rfl (by omega) hq0 ?_;conv=>whnf
 refine A4 (len_S b (l.length+1) _) ?_;conv=>whnf
 have w:IntKind.i64.wrap (((l.length+1:Nat):Int) - 1)=(l.length:Int):=by rw [A9 (by omega) (by omega)];omega
 rw [w]
 have e1:(l++[x]).length=l.length+1:=by simp
 have hr:Ab.Rise (l++[x]) (l++[x]).length l.length:=by rw [e1];exact hh.up x rfl
 refine call (C5a q b (l++[x]) l.length _ (by rw [e1];exact ⟨fq,hqs,hq0⟩) hqb he hr (by omega) (by omega)) (fun v st'' hv=>?_)
 obtain ⟨rfl,l',hp,hh',he',hfr⟩:=hv
 conv=>whnf
 have el:l'.length=(l++[x]).length:=hp.length_eq
 refine ⟨rfl,b,l',hqb,hb0,hp,by rw [el];exact hh',?_,he',fun c y hc=>?_⟩
 ·rw [el,e1];exact A3z.frame ⟨fq,hqs,hq0⟩ hqb hfr
 ·rw [hfr c (fun e=>by subst e;rw [hb0] at hc;cases hc)];exact hsup' c y hc
theorem B8M {l l':List QE} {m:Nat} (hm:m<l.length) (hp:l'.Perm l) (hk:∀ k,m≤k→at_ l' k=at_ (swp l 0 m) k):(at_ l 0::l'.take m).Perm (l.take (m+1)):=by
 have hlen:l'.length=l.length:=hp.length_eq
 have e1:l'.drop m=at_ l 0::l.drop (m+1):=by
  refine List.ext_getElem? fun i=>?_
  rw [List.getElem?_drop]
  have hi:=hk (m+i) (by omega)
  rw [A6u (by omega) hm] at hi
  rcases Nat.lt_or_ge (m+i) l.length with h | h
  ·have a1:l'[m+i]?=some (at_ l' (m+i)):=by
    unfold at_;rw [List.getD_eq_getElem?_getD,List.getElem?_eq_getElem (by omega)];rfl
   rw [a1,hi]
   cases i with
   | zero=>simp
   | succ i =>
    rw [if_neg (by omega),if_neg (by omega),List.getElem?_cons_succ,List.getElem?_drop]
    unfold at_
    rw [List.getD_eq_getElem?_getD,show m+(i+1)=m+1+i by omega,List.getElem?_eq_getElem (by omega)];rfl
  ·rw [List.getElem?_eq_none (by omega)]
   cases i with
   | zero=>omega
   | succ i=>rw [List.getElem?_cons_succ,List.getElem?_drop,List.getElem?_eq_none (by omega)]
 have h1:(l'.take m++(at_ l 0::l.drop (m+1))).Perm (l.take (m+1)++l.drop (m+1)):=by
  rw [←e1,List.take_append_drop,List.take_append_drop];exact hp
 have h2:((at_ l 0::l'.take m)++l.drop (m+1)).Perm (l.take (m+1)++l.drop (m+1)):=by
  refine List.Perm.trans ?_ h1
  exact List.perm_middle.symm
 exact (List.perm_append_right_iff _).1 h2
theorem C3V (q b:Nat) (l:List QE) (n:Nat) (st:St) (hq:A3z st q (.own 2 b 0 (n+1))) (hqb:q≠b) (he:A2j st b l) (hh:A4w l (n+1)) (hn:n<l.length) (hl:l.length<2305843009213693952) :
  S P 241 [hI q] st fun v st'=>v=.iface 300 (A6U (at_ l 0))∧∃ l',l'.length=l.length∧(at_ l 0::l'.take n).Perm (l.take (n+1))∧A4w l' n∧A3z st' q (.own 2 b 0 n)∧A2j st' b l'∧∀ c,c≠q→c≠b→st' c=st c:=by
 obtain ⟨fq,hqs,hq0⟩:=hq
 refine A5 [] B7 mixed Tryz.func241 (by rfl) rfl rfl rfl ?_;conv=>whnf
 refine E9 hqs rfl (by omega) hq0 ?_;conv=>whnf
 refine A4 (len_S b (n+1) _) ?_;conv=>whnf
 have w:IntKind.i64.wrap (((n+1:Nat):Int) - 1)=(n:Int):=by rw [A9 (by omega) (by omega)];omega
 rw [w]
 refine E9 hqs rfl (by omega) hq0 ?_;conv=>whnf
 refine call (B6l b l (n+1) 0 n _ he (by omega) (by omega) (by omega)) (fun v st1 hv=>?_)
 obtain ⟨rfl,he1,hfr1⟩:=hv
 have hq1:A3z st1 q (.own 2 b 0 (n+1)):=A3z.frame ⟨fq,hqs,hq0⟩ hqb hfr1
 have hd:Ab.Sink (swp l 0 n) n 0:=hh.down hn
 have hsl:(swp l 0 n).length=l.length:=B3c l 0 n
 conv=>whnf
 refine call (C1Y q b (swp l 0 n) (n+1) n _ hq1 hqb he1 hd (by omega) (by omega) (by omega)) (fun v st2 hv=>?_)
 obtain ⟨⟨y,rfl⟩,l',hp,hk,hh',he2,hfr2⟩:=hv
 have hl':l'.length=l.length:=hp.length_eq.trans hsl
 have hq2:A3z st2 q (.own 2 b 0 (n+1)):=hq1.frame hqb hfr2
 have htop:at_ l' n=at_ l 0:=by rw [hk n (Nat.le_refl _),A6u (by omega) hn,if_pos rfl]
 conv=>whnf
 refine call (C3Q q b l' n _ hq2 hqb he2 (by omega) (by omega)) (fun v st3 hv=>?_)
 obtain ⟨rfl,hq3,hfr3⟩:=hv
 rw [htop];conv=>whnf
 refine ⟨rfl,l',hl',B8M hn (hp.trans (B0q (by omega) hn)) hk,hh',hq3,he2.frame hqb hfr3,fun c h1 h2=>by rw [hfr3 c h1,hfr2 c h2,hfr1 c h2]⟩
structure QSt (st0:St) (q:Nat) (fresh:Bool) (es:List QE) (st:St):Prop where
 new:st0 q=none
 sup:F2 st0 st
 has:∃ sv,A3z st q sv∧((es=[]∧sv=.emp)∨∃ b l n,q≠b∧st0 b=none∧sv=.own 2 b 0 n∧n≤l.length∧l.length<2305843009213∧A4w l n∧A2j st b l∧(l.take n).Perm es∧(fresh=true→n=l.length))
theorem QSt.perm {st0 st:St} {q:Nat} {f:Bool} {es es':List QE} (h:QSt st0 q f es st) (hp:es.Perm es'):QSt st0 q f es' st:=by
 obtain ⟨h1,h2,sv,hq,h3⟩:=h
 refine ⟨h1,h2,sv,hq,?_⟩
 rcases h3 with ⟨rfl,hs⟩ | ⟨b,l,n,a1,a2,a3,a4,a5,a6,a7,a8,a9⟩
 ·exact .inl ⟨List.Perm.eq_nil hp.symm,hs⟩
 ·exact .inr ⟨b,l,n,a1,a2,a3,a4,a5,a6,a7,a8.trans hp,a9⟩
theorem B2J (st:St):S P 150 [] st fun v st'=>∃ q,v=.optr 1 q 0 0∧QSt st q true [] st':=by
 refine A5 [] B7 mixed Tryz.func150 (by rfl) rfl rfl rfl ?_;conv=>whnf
 intro q hq;conv=>whnf
 exact ⟨q,rfl,hq,(F2.refl st).upd hq,.emp,⟨_,A0 ..,rfl⟩,.inl ⟨rfl,rfl⟩⟩
theorem A8T (st0:St) (q:Nat) (es:List QE) (r k:Int) (st:St) (h:QSt st0 q true es st) (hl:es.length<2305843009212):S P 151 [.optr 1 q 0 0,eI r,eI k] st fun v st'=>v=.tuple []∧QSt st0 q true (es++[(r,k)]) st':=by
 obtain ⟨h1,h2,sv,hq,h3⟩:=h
 refine A5 [] B7 mixed Tryz.func151 (by rfl) rfl rfl rfl ?_;conv=>whnf
 have hex:∃ l:List QE,l.Perm es∧A4w l l.length∧((l=[]∧sv=.emp)∨∃ b,q≠b∧st0 b=none∧sv=.own 2 b 0 l.length∧A2j st b l):=by
  rcases h3 with ⟨rfl,hs⟩ | ⟨b,l,n,a1,a2,a3,a4,a5,a6,a7,a8,a9⟩
  ·exact ⟨[],List.Perm.refl _,fun c h0 hc=>absurd hc (by simp),.inl ⟨rfl,hs⟩⟩
  ·have e:=a9 rfl
   subst e
   rw [List.take_length] at a8
   exact ⟨l,a8,a6,.inr ⟨b,a1,a2,a3,a7⟩⟩
 obtain ⟨l,hp,hh,hs⟩:=hex
 have hll:l.length=es.length:=hp.length_eq
 refine call (C1Z q sv l (r,k) st st0 hq h1 h2 (by omega) hh hs) (fun v st' hv=>?_)
 obtain ⟨rfl,b,l',hqb,hb0,hp',hh',hq',he',hsup'⟩:=hv
 have hl':l'.length=l.length+1:=by rw [hp'.length_eq];simp
 conv=>whnf
 exact ⟨rfl,h1,hsup',_,hq',.inr ⟨b,l',l'.length,hqb,hb0,rfl,Nat.le_refl _,by omega,hh',he',by rw [List.take_length];exact hp'.trans (hp.append_right _),fun _=>rfl⟩⟩
theorem A9U (st0:St) (q:Nat) (f:Bool) (es:List QE) (st:St) (h:QSt st0 q f es st):S P 152 [.optr 1 q 0 0] st fun v st'=>v=eI es.length∧st'=st:=by
 obtain ⟨h1,h2,sv,⟨fq,hqs,hq0⟩,h3⟩:=h
 refine A5 [] B7 mixed Tryz.func152 (by rfl) rfl rfl rfl ?_;conv=>whnf
 rcases h3 with ⟨rfl,rfl⟩ | ⟨b,l,n,a1,a2,rfl,a4,a5,a6,a7,a8,a9⟩
 ·refine E9 hqs rfl (by omega) hq0 ?_;conv=>whnf
  exact ⟨rfl,rfl⟩
 ·refine E9 hqs rfl (by omega) hq0 ?_;conv=>whnf
  refine ⟨?_,rfl⟩
  have:es.length=n:=by rw [←a8.length_eq,List.length_take];omega
  rw [this];rfl
theorem C2r (st0:St) (q:Nat) (f:Bool) (st:St) (h:QSt st0 q f [] st):S P 153 [.optr 1 q 0 0] st fun v st'=>v=.tuple [eI 0,eI 0,.bool false]∧st'=st:=by
 obtain ⟨h1,h2,sv,⟨fq,hqs,hq0⟩,h3⟩:=h
 refine A5 [] B7 mixed Tryz.func153 (by rfl) rfl rfl rfl ?_;conv=>whnf
 rcases h3 with ⟨_,rfl⟩ | ⟨b,l,n,a1,a2,rfl,a4,a5,a6,a7,a8,a9⟩
 ·refine E9 hqs rfl (by omega) hq0 ?_;conv=>whnf
  exact ⟨rfl,rfl⟩
 ·have e:n=0:=by
   have:=a8.length_eq
   rw [List.length_take,List.length_nil] at this;omega
  subst e
  refine E9 hqs rfl (by omega) hq0 ?_;conv=>whnf
  exact ⟨rfl,rfl⟩
theorem A9V (st0:St) (q:Nat) (f:Bool) (x:QE) (es:List QE) (st:St) (h:QSt st0 q f (x::es) st) (htop:∀ y∈es,H8 y x=false):S P 153 [.optr 1 q 0 0] st fun v st'=>v=.tuple [eI x.1,eI x.2,.bool true]∧QSt st0 q false es st':=by
 obtain ⟨h1,h2,sv,hq,h3⟩:=h
 rcases h3 with ⟨h,_⟩ | ⟨b,l,n,a1,a2,rfl,a4,a5,a6,a7,a8,a9⟩
 ·cases h
 have hn:n=es.length+1:=by
  have:=a8.length_eq
  rw [List.length_take,List.length_cons] at this;omega
 subst hn
 have hx:at_ l 0=x:=by
  have m0:at_ l 0∈x::es:=by
   refine a8.subset ?_
   have:(l.take (es.length+1)).getD 0 default=at_ l 0:=by
    unfold at_;rw [List.getD_eq_getElem?_getD,List.getD_eq_getElem?_getD,List.getElem?_take_of_lt (by omega)]
   rw [←this];exact B4 (by rw [List.length_take];omega)
  have hmem:x∈l.take (es.length+1):=a8.symm.subset (List.mem_cons_self ..)
  obtain ⟨k,hk,he⟩:=F4 hmem
  rw [List.length_take] at hk
  have hxk:x=at_ l k:=by
   rw [he];unfold at_;rw [List.getD_eq_getElem?_getD,List.getD_eq_getElem?_getD,List.getElem?_take_of_lt (by omega)]
  have t1:H8 x (at_ l 0)=false:=by rw [hxk];exact a6.top k (by omega)
  rcases List.mem_cons.1 m0 with e | e
  ·exact e
  ·exact A7V (htop _ e) t1
 have hq':=hq
 obtain ⟨fq,hqs,hq0⟩:=hq
 refine A5 [] B7 mixed Tryz.func153 (by rfl) rfl rfl rfl ?_;conv=>whnf
 refine E9 hqs rfl (by omega) hq0 ?_;conv=>whnf
 refine call (C3V q b l es.length st hq' a1 a7 a6 (by omega) (by omega)) (fun v st' hv=>?_)
 obtain ⟨rfl,l',hl',hp',hh',hq3,he3,hfr⟩:=hv
 rw [hx] at hp' ⊢
 have hsup':F2 st0 st':=fun c y hc=>by
  rw [hfr c (fun e=>by subst e;rw [h1] at hc;cases hc) (fun e=>by subst e;rw [a2] at hc;cases hc)];exact h2 c y hc
 conv=>whnf
 intro c hc;conv=>whnf
 refine K4 (A0 ..) rfl (by omega) rfl (by rfl) ?_;conv=>whnf
 refine ⟨[],[],[0,1,2,3,4,5,6],by kernel_rfl,?_⟩;conv=>whnf
 refine E9 (A0 ..) rfl (by omega) rfl ?_;conv=>whnf
 refine E9 (A0 ..) rfl (by omega) rfl ?_;conv=>whnf
 obtain ⟨fq',hqs',hq0'⟩:=hq3
 obtain ⟨fe,hes,hef⟩:=he3
 have hcq:q≠c:=fun e=>by subst e;rw [hqs'] at hc;cases hc
 have hcb:b≠c:=fun e=>by subst e;rw [hes] at hc;cases hc
 have hc0:st0 c=none:=hsup'.none hc
 refine ⟨rfl,h1,(hsup'.over hc0).over hc0,_,⟨fq',by rw [A8 hcq,A8 hcq];exact hqs',hq0'⟩,.inr ⟨b,l',es.length,a1,a2,rfl,by omega,by omega,hh',⟨fe,by rw [A8 hcb,A8 hcb];exact hes,hef⟩,?_,fun e=>by cases e⟩⟩
 exact (List.perm_cons x).1 (hp'.trans a8)
end Go.Proofs.YthdimklenlikgaaGreat
