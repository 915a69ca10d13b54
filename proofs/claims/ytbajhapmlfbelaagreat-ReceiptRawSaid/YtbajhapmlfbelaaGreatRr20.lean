/- Part 20 of the proof: contracts of the functions that the law reaches -/
import Derived.Test.YtbajhapmlfbelaaGreatRr19
set_option maxRecDepth 100000
set_option linter.unusedVariables false
set_option linter.unusedSimpArgs false
namespace Go.Proofs.YtbajhapmlfbelaaGreat
open Go Go.Ab
attribute [local irreducible] upd del
abbrev Big:Nat:=9223372036854775807
def J9 (lo hi x:Int):Bool:=decide (x≥lo)&&decide (x≤hi)
def T3 {α : Type} [Inhabited α] (l:List α) (p:Nat→α→Bool):Bool:=(List.range l.length).all fun k=>p k (l.getD k default)
theorem T7 {α : Type} [Inhabited α] {l:List α} {p:Nat→α→Bool} (h:∀ k,k<l.length→p k (l.getD k default)=true):T3 l p=true:=A2x h
theorem Y5 {α : Type} [Inhabited α] {l:List α} {p:Nat→α→Bool} {k:Nat} (hk:k<l.length) (h:p k (l.getD k default)=false):T3 l p=false:=A0O hk h
theorem I1 {i:Nat} {q:Nat→Prop} (h:∀ k,k<i→q k) (hi:q i):∀ k,k<i+1→q k:=fun k hk=>by
 rcases Nat.lt_succ_iff_lt_or_eq.1 hk with h' | h'
 ·exact h k h'
 ·rw [h'];exact hi
theorem A8K {α : Type} [Inhabited α] (g : α→D9) (l:List α) (st:St):A4 [.arr 1 l.length (fun k=>eS (g (l.getD k default)))] st [D8 (l.map g)] st:=by
 have e:D8 (l.map g)=.arr 1 l.length (fun k=>eS ((l.map g).getD k default)):=by unfold D8 A6;rw [List.length_map]
 rw [e]
 exact A4.arr fun i hi=>by rw [F1 g l hi]
theorem B4S (x:Int) (st:St):S P 217 [eI x] st fun v st'=>v=.bool (J9 0 100000 x)∧st'=st:=by
 refine SyW [] Tryz.func217 ?_
 repeat' ((conv=>whnf);first  | (refine B6 (fun h=>?_) (fun h=>?_)<;>rw [h]))
 all_goals (conv=>whnf)
 all_goals (refine ⟨?_,rfl⟩;show AV.bool _=AV.bool _;congr 1)
 all_goals (simp only [J9, *,Bool.true_and,Bool.false_and,Bool.and_true,Bool.and_false,Bool.or_true,Bool.or_false,Bool.true_or,Bool.false_or,Bool.not_true,Bool.not_false,Bool.not_not];try rfl)
theorem A9a (x:Int) (st:St):S P 258 [eI x] st fun v st'=>v=.bool (J9 0 10000 x)∧st'=st:=by
 refine SyW [] Tryz.func258 ?_
 repeat' ((conv=>whnf);first  | (refine B6 (fun h=>?_) (fun h=>?_)<;>rw [h]))
 all_goals (conv=>whnf)
 all_goals (refine ⟨?_,rfl⟩;show AV.bool _=AV.bool _;congr 1)
 all_goals (simp only [J9, *,Bool.true_and,Bool.false_and,Bool.and_true,Bool.and_false,Bool.or_true,Bool.or_false,Bool.true_or,Bool.false_or,Bool.not_true,Bool.not_false,Bool.not_not];try rfl)
theorem B1e (x:Int) (st:St):S P 222 [eI x] st fun v st'=>v=.bool (J9 1 9 x)∧st'=st:=by
 refine SyW [] Tryz.func222 ?_
 repeat' ((conv=>whnf);first  | (refine B6 (fun h=>?_) (fun h=>?_)<;>rw [h]))
 all_goals (conv=>whnf)
 all_goals (refine ⟨?_,rfl⟩;show AV.bool _=AV.bool _;congr 1)
 all_goals (simp only [J9, *,Bool.true_and,Bool.false_and,Bool.and_true,Bool.and_false,Bool.or_true,Bool.or_false,Bool.true_or,Bool.false_or,Bool.not_true,Bool.not_false,Bool.not_not];try rfl)
def A0M (x:F6):Bool:=J9 0 100000 x.qty&&J9 0 1000000000 x.price
theorem B9j (x:F6) (st:St):S P 275 [G3 x] st fun v st'=>v=.bool (A0M x)∧st'=st:=by
 refine SyW [1] Tryz.func275 ?_
 repeat' ((conv=>whnf);first  | (refine B6 (fun h=>?_) (fun h=>?_)<;>rw [h]))
 all_goals (conv=>whnf)
 all_goals (refine ⟨?_,rfl⟩;show AV.bool _=AV.bool _;congr 1)
 all_goals (simp only [A0M,J9, *,Bool.true_and,Bool.false_and,Bool.and_true,Bool.and_false,Bool.or_true,Bool.or_false,Bool.true_or,Bool.false_or,Bool.not_true,Bool.not_false,Bool.not_not];try rfl)
def B2A (x:Ab.Ship):Bool:=J9 0 1000000000 x.fee&&J9 0 10000000000000 x.free
theorem B9F (x:Ab.Ship) (st:St):S P 177 [B8o x] st fun v st'=>v=.bool (B2A x)∧st'=st:=by
 refine SyW [1] Tryz.func177 ?_
 repeat' ((conv=>whnf);first  | (refine B6 (fun h=>?_) (fun h=>?_)<;>rw [h]))
 all_goals (conv=>whnf)
 all_goals (refine ⟨?_,rfl⟩;show AV.bool _=AV.bool _;congr 1)
 all_goals (simp only [B2A,J9, *,Bool.true_and,Bool.false_and,Bool.and_true,Bool.and_false,Bool.or_true,Bool.or_false,Bool.true_or,Bool.false_or,Bool.not_true,Bool.not_false,Bool.not_not];try rfl)
abbrev A9N (p:B1):AV:=.agg (cellsOf (B8 p))
def A6o (p:B1):Bool:=J9 1 10000 p.rate
def A5A (p:B1):Bool:=J9 1 1000000000 p.amount
def A5C (p:B1):Bool:=A6o p&&(J9 1 100 p.buy&&J9 1 100 p.get)
def A6q (x:A3C):Bool:=A4J x.scope&&!(decide (x.count<1)||decide (x.count>100))
theorem A8Q (p:B1) (st:St):S P 309 [A9N p] st fun v st'=>v=.bool (A6o p)∧st'=st:=by
 refine SyW [1] Tryz.func309 ?_
 repeat' ((conv=>whnf);first  | (refine B6 (fun h=>?_) (fun h=>?_)<;>rw [h]))
 all_goals (conv=>whnf)
 all_goals (refine ⟨?_,rfl⟩;show AV.bool _=AV.bool _;congr 1)
 all_goals (simp only [A6o,J9, *,Bool.true_and,Bool.false_and,Bool.and_true,Bool.and_false,Bool.or_true,Bool.or_false,Bool.true_or,Bool.false_or,Bool.not_true,Bool.not_false,Bool.not_not];try rfl)
theorem B3v (p:B1) (st:St):S P 310 [A9N p] st fun v st'=>v=.bool (A5A p)∧st'=st:=by
 refine SyW [1] Tryz.func310 ?_
 repeat' ((conv=>whnf);first  | (refine B6 (fun h=>?_) (fun h=>?_)<;>rw [h]))
 all_goals (conv=>whnf)
 all_goals (refine ⟨?_,rfl⟩;show AV.bool _=AV.bool _;congr 1)
 all_goals (simp only [A5A,J9, *,Bool.true_and,Bool.false_and,Bool.and_true,Bool.and_false,Bool.or_true,Bool.or_false,Bool.true_or,Bool.false_or,Bool.not_true,Bool.not_false,Bool.not_not];try rfl)
theorem B3x (p:B1) (st:St):S P 311 [A9N p] st fun v st'=>v=.bool (A5C p)∧st'=st:=by
 refine SyW [1] Tryz.func311 ?_
 repeat' ((conv=>whnf);first | refine B3 (A8Q p st) ?_ | (refine B6 (fun h=>?_) (fun h=>?_)<;>rw [h]))
 all_goals (conv=>whnf)
 all_goals (refine ⟨?_,rfl⟩;show AV.bool _=AV.bool _;congr 1)
 all_goals (simp only [A5C,J9, *,Bool.true_and,Bool.false_and,Bool.and_true,Bool.and_false,Bool.or_true,Bool.or_false,Bool.true_or,Bool.false_or,Bool.not_true,Bool.not_false,Bool.not_not];try rfl)
def A0K (s:D9):Bool:=s.toList==(⟨#[]⟩:D9).toList
def A8M (s:D9):Bool:=A0K s||D0 s
theorem B7x (s:D9) (st:St):S P 340 [eS s] st fun v st'=>v=.bool (A8M s)∧st'=st:=by
 refine SyW [] Tryz.func340 ?_
 repeat' ((conv=>whnf);first | refine B3 (W4 s st) ?_ | (refine B6 (fun h=>?_) (fun h=>?_)<;>rw [h]))
 all_goals (conv=>whnf)
 all_goals (refine ⟨?_,rfl⟩;show AV.bool _=AV.bool _;congr 1)
 all_goals (simp only [A8M,A0K, *,Bool.true_and,Bool.false_and,Bool.and_true,Bool.and_false,Bool.or_true,Bool.or_false,Bool.true_or,Bool.false_or,Bool.not_true,Bool.not_false,Bool.not_not];try rfl)
theorem B3t (x:A3C) (h1:x.scope.skus.length≤Big) (h2:x.scope.cats.length≤Big) (st:St):S P 338 [A0I x] st fun v st'=>v=.bool (!A6q x)∧st'=st:=by
 refine SyW [1] Tryz.func338 ?_
 repeat' ((conv=>whnf);first | refine B3 (B2z x.scope h1 h2 st) ?_ | (refine B6 (fun h=>?_) (fun h=>?_)<;>rw [h]))
 all_goals (conv=>whnf)
 all_goals (refine ⟨?_,rfl⟩;show AV.bool _=AV.bool _;congr 1)
 all_goals (simp only [A6q,Bool.not_eq_true',Bool.not_eq_false', *,Bool.true_and,Bool.false_and,Bool.and_true,Bool.and_false,Bool.or_true,Bool.or_false,Bool.true_or,Bool.false_or,Bool.not_true,Bool.not_false,Bool.not_not] at *;try simp only [*,Bool.true_and,Bool.false_and,Bool.not_true,Bool.not_false,Bool.true_or,Bool.false_or,Bool.not_not])
def A9y (l:List A3C):Prop:=l.length≤Big∧∀ x∈l,x.scope.skus.length≤Big∧x.scope.cats.length≤Big
def A5B (p:B1):Bool:=!(decide ((p.parts.length:Int)<1)||decide ((p.parts.length:Int)>3)||decide (p.amount<0)||decide (p.amount>10000000000000))&&!(p.parts.any fun x=>!A6q x)
theorem B3w (p:B1) (hp:A9y p.parts) (st:St):S P 312 [A9N p] st fun v st'=>v=.bool (A5B p)∧st'=st:=by
 refine SyW [1] Tryz.func312 ?_
 repeat' ((conv=>whnf);first | refine B3 (B1p p.parts hp.1 _ [] (fun x=>!A6q x) st fun x hx=>B3t x (hp.2 x hx).1 (hp.2 x hx).2 st) ?_ | (refine B6 (fun h=>?_) (fun h=>?_)<;>rw [h]))
 all_goals (conv=>whnf)
 all_goals (refine ⟨?_,rfl⟩;show AV.bool _=AV.bool _;congr 1)
 all_goals (simp only [A5B, *,Bool.true_and,Bool.false_and,Bool.and_true,Bool.and_false,Bool.or_true,Bool.or_false,Bool.true_or,Bool.false_or,Bool.not_true,Bool.not_false,Bool.not_not];try rfl)
def A2l (l:List A3E) (k:Nat) (x:A3E):Bool :=
 !(decide (x.least≤(if k=0 then -1 else (l.getD (k - 1) default).least))||decide (x.least>10000000000000)||decide (x.rate<0)||decide (x.rate>10000)||decide (x.amount<0)||decide (x.amount>10000000000000)||(x.rate==0&&x.amount==0))
def A1A (l:List A3E):Bool:=!(decide ((l.length:Int)<1)||decide ((l.length:Int)>6))&&T3 l (A2l l)
theorem B2H (p:B1) (st:St):S P 313 [A9N p] st fun v st'=>v=.bool (A1A p.tiers)∧st'=st:=by
 refine SyW [1,5] Tryz.func313 ?_
 repeat' ((conv=>whnf);first  | (refine B6 (fun h=>?_) (fun h=>?_)<;>rw [h]))
 all_goals (conv=>whnf)
 all_goals first
  | (refine ⟨?_,rfl⟩;show AV.bool _=AV.bool _;congr 1;simp only [A1A, *,Bool.true_or,Bool.or_true,Bool.not_true,Bool.false_and];done)
  | skip
 generalize hl:p.tiers=l at *
 have hs:l.length≤6:=by simp only [decide_eq_true_eq,decide_eq_false_iff_not] at *;omega
 have ht:A1A l=T3 l (A2l l):=by simp only [A1A, *,Bool.or_false,Bool.not_false,Bool.true_and]
 refine ⟨[3,20,21,22],fun m vs st'=>∃ i:Nat,i≤l.length∧(∀ k,k<i→A2l l k (l.getD k default)=true)∧m=l.length - i∧vs=[eI (if i=0 then -1 else (l.getD (i - 1) default).least),A6 3 A0J l,eI l.length,eI i]∧st'=st,?_,?_⟩
 ·conv=>whnf
  exact ⟨_,0,Nat.zero_le _,fun k hk=>absurd hk (by omega),rfl,rfl,rfl⟩
 ·rintro m vs st' ⟨i,hi,hok,rfl,rfl,rfl⟩
  conv=>whnf
  cases h:decide ((i:Int)<(l.length:Int))
  ·have:=of_decide_eq_false h
   conv=>whnf
   refine ⟨?_,rfl⟩
   rw [ht,T7 fun k hk=>hok k (by omega)];rfl
  ·have hi':i<l.length:=by have:=of_decide_eq_true h;omega
   conv=>whnf
   refine ⟨rfl,⟨by omega,by omega⟩,?_⟩
   have yes:A2l l i (l.getD (i:Int).toNat default)=true→∀ k,k<i+1→A2l l k (l.getD k default)=true:=fun h=>I1 hok h
   have no:A2l l i (l.getD (i:Int).toNat default)=false→A1A l=false:=fun h=>by rw [ht];exact Y5 hi' h
   unfold A2l at yes no
   repeat' ((conv=>whnf);first  | (refine B6 (fun h=>?_) (fun h=>?_)<;>rw [h]))
   all_goals (conv=>whnf)
   all_goals first
    | (refine ⟨?_,rfl⟩;rw [no (by simp only [*,Bool.true_and,Bool.and_self,Bool.or_true,Bool.true_or,Bool.not_true])];rfl)
    | (refine ⟨rfl,?_⟩
       conv=>whnf
       exact ⟨l.length - (i+1),by omega,i+1,by omega,yes (by simp only [*,Bool.false_and,Bool.and_false,Bool.or_false,Bool.not_false]),rfl,by rw [B7 (by omega),if_neg (show ¬ i+1=0 by omega)];rfl,rfl⟩)
def A7Q (p:B1):Bool:=D0 p.id&&J9 0 1000 p.prio&&A8M p.group&&A8M p.code&&A4J p.scope&&J9 0 10000000000000 p.least
structure A5M (s:P3):Prop where
 skus:s.skus.length≤Big
 cats:s.cats.length≤Big
theorem B7F (p:B1) (hsc:A5M p.scope) (st:St):S P 314 [A9N p] st fun v st'=>v=.bool (A7Q p)∧st'=st:=by
 refine SyW [1] Tryz.func314 ?_
 repeat' ((conv=>whnf);first | refine B3 (W4 _ st) ?_ | refine B3 (B7x _ st) ?_ | refine B3 (B2z p.scope hsc.skus hsc.cats st) ?_ | (refine B6 (fun h=>?_) (fun h=>?_)<;>rw [h]))
 all_goals (conv=>whnf)
 all_goals (refine ⟨?_,rfl⟩;show AV.bool _=AV.bool _;congr 1)
 all_goals (simp only [A7Q,J9, *,Bool.true_and,Bool.false_and,Bool.and_true,Bool.and_false,Bool.or_true,Bool.or_false,Bool.true_or,Bool.false_or,Bool.not_true,Bool.not_false,Bool.not_not];try rfl)
def B1o (p:B1):Bool :=
 (((p.kind==1)||(p.kind==7)||(p.kind==3))||p.rate==0)&&((p.kind==2)||(p.kind==4)||p.amount==0)&&((p.kind==3)||(p.buy==0&&p.get==0))&&((p.kind==4)||p.parts.length==0)&&((p.kind==5)||(p.kind==6)||p.tiers.length==0)&&(((p.kind != 4)&&(p.kind != 7))||(p.scope.skus.length+p.scope.cats.length==0))&&((p.kind != 7)||!p.closes)
theorem B2q (n:Nat):((n:Int)==0)=(n==0):=by
 rw [Bool.eq_iff_iff,beq_iff_eq,beq_iff_eq];omega
set_option maxHeartbeats 4000000 in
theorem B5B (p:B1) (hk:1≤p.kind∧p.kind≤7) (hs1:p.scope.skus.length≤20) (hs2:p.scope.cats.length≤20) (st:St):S P 315 [A9N p] st fun v st'=>v=.bool (B1o p)∧st'=st:=by
 refine SyW [1] Tryz.func315 ?_
 obtain ⟨id,kind,prio,group,code,closes,scope,least,rate,amount,buy,get,parts,tiers⟩:=p
 simp only at *
 have wl:IntKind.i64.wrap ((scope.skus.length:Int)+(scope.cats.length:Int))=((scope.skus.length+scope.cats.length:Nat):Int):=by rw [A5 (by omega) (by omega)];omega
 rcases (by omega:kind=1∨kind=2∨kind=3∨kind=4∨kind=5∨kind=6∨kind=7) with rfl | rfl | rfl | rfl | rfl | rfl | rfl
 all_goals repeat' ((conv=>whnf);first  | (refine B6 (fun h=>?_) (fun h=>?_)<;>rw [h]))
 all_goals (conv=>whnf)
 all_goals (refine ⟨?_,rfl⟩;show AV.bool _=AV.bool _;congr 1)
 all_goals (try rw [wl] at *)
 all_goals (simp only [B2q] at *;simp [B1o, *])
theorem L9 {P:Program} {f:FuncId} {args:List AV} {st:St} {v:AV} (h:S P f args st fun v' st'=>v'=v∧st'=st):T2 P f args st fun v' st'=>v'=v∧st'=st:=call h fun _ _ h=>h
structure K1 (p:B1):Prop where
 scope:A5M p.scope
 parts:A9y p.parts
def A7S (p:B1):Bool :=
 if p.kind=1 then A6o p else if p.kind=2 then A5A p else if p.kind=3 then A5C p else if p.kind=4 then A5B p else if p.kind=5 then A1A p.tiers else if p.kind=6 then A1A p.tiers else A6o p
def J2 (p:B1):Bool:=decide (p.kind≥1)&&decide (p.kind<8)&&A7Q p&&B1o p&&A7S p
theorem A6G {s:P3} (h:A4J s=true):s.skus.length≤20∧s.cats.length≤20:=by
 simp only [A4J,Bool.and_eq_true,decide_eq_true_eq] at h
 exact ⟨h.1.1,h.2.1⟩
theorem A7R {p:B1} (h:A7Q p=true):p.scope.skus.length≤20∧p.scope.cats.length≤20:=by
 simp only [A7Q,Bool.and_eq_true] at h
 exact A6G h.1.2
theorem A5E (p:B1) (hp:K1 p) (st:St):S P 254 [B8 p] st fun v st'=>v=.bool (J2 p)∧st'=st:=by
 refine D6 [1,3,4] Tryz.func254 ?_
 refine ⟨[],[],[0,1,2,3,4,5,6,7,8,9,10,11,12,13,14,15,16,17,18,19,20,21,22,23,24],by kernel_rfl,?_⟩;conv=>whnf
 refine B6 (fun h1=>?_) (fun h1=>?_)<;>rw [h1]
 case refine_2 =>
  conv=>whnf
  refine ⟨?_,rfl⟩
  simp only [J2,h1,Bool.false_and];rfl
 conv=>whnf
 refine B6 (fun h2=>?_) (fun h2=>?_)<;>rw [h2]
 case refine_2 =>
  conv=>whnf
  refine ⟨?_,rfl⟩
  simp only [J2,h1,h2,Bool.false_and,Bool.and_false];rfl
 have hk:1≤p.kind∧p.kind≤7:=by simp only [decide_eq_true_eq] at h1 h2;omega
 conv=>whnf
 refine cqW (B7F p hp.scope st) ?_
 refine B6 (fun h3=>?_) (fun h3=>?_)
 case refine_2 =>
  rw [h3];conv=>whnf
  refine ⟨?_,rfl⟩
  simp only [J2,h3,Bool.false_and,Bool.and_false];rfl
 rw [h3]
 have hl:=A7R h3
 conv=>whnf
 refine cqW (B5B p hk hl.1 hl.2 st) ?_
 refine B6 (fun h4=>?_) (fun h4=>?_)
 case refine_2 =>
  rw [h4];conv=>whnf
  refine ⟨?_,rfl⟩
  simp only [J2,h4,Bool.false_and,Bool.and_false];rfl
 rw [h4]
 have hspec:J2 p=A7S p:=by simp only [J2,h1,h2,h3,h4,Bool.true_and]
 rw [hspec]
 suffices hcall:∀ f,f=(if p.kind=1 then 309 else if p.kind=2 then 310 else if p.kind=3 then 311 else if p.kind=4 then 312 else if p.kind=5 then 313 else if p.kind=6 then 313 else 309)→S P f [A9N p] st fun v st'=>v=.bool (A7S p)∧st'=st by
  clear hspec h1 h2 h3 h4 hl
  generalize A7S p=B at *
  clear hp
  obtain ⟨id,kind,prio,group,code,closes,scope,least,rate,amount,buy,get,parts,tiers⟩:=p
  simp only at hk hcall
  rcases (by omega:kind=1∨kind=2∨kind=3∨kind=4∨kind=5∨kind=6∨kind=7) with rfl | rfl | rfl | rfl | rfl | rfl | rfl
  all_goals (conv=>whnf)
  all_goals (refine ⟨⟨by dsimp only;omega,by dsimp only;omega⟩,?_⟩;conv=>whnf)
  all_goals (refine ⟨_,L9 (hcall _ rfl),?_⟩;conv=>whnf)
  all_goals exact ⟨rfl,rfl⟩
 rintro f rfl
 unfold A7S
 rcases (by omega:p.kind=1∨p.kind=2∨p.kind=3∨p.kind=4∨p.kind=5∨p.kind=6∨p.kind=7) with e | e | e | e | e | e | e<;>rw [e]
 ·exact A8Q p st
 ·exact B3v p st
 ·exact B3x p st
 ·exact B3w p hp.parts st
 ·exact B2H p st
 ·exact B2H p st
 ·exact A8Q p st
theorem B3r (s:D9) (st:St):S P 181 [eS s] st fun v st'=>v=.bool (!D0 s)∧st'=st:=by
 refine D6 [] Tryz.func181 ?_
 refine I7 (W4 s st) ?_
 exact ⟨rfl,rfl⟩
def N0 (l:List D9):Bool:=decide ((l.length:Int)≤4)&&A0n l&&!(l.any fun s=>!D0 s)
theorem A8x (l:List D9) (hl:l.length≤Big) (st:St):S P 96 [D8 l] st fun v st'=>v=.bool (N0 l)∧st'=st:=by
 refine SyW [] Tryz.func96 ?_
 repeat' ((conv=>whnf);first | refine B3 (A6F l hl st) ?_ | refine B3 (B3O l hl _ [] (fun s=>!D0 s) st fun x _=>B3r x st) ?_ | (refine B6 (fun h=>?_) (fun h=>?_)<;>rw [h]))
 all_goals (conv=>whnf)
 all_goals (refine ⟨?_,rfl⟩;show AV.bool _=AV.bool _;congr 1)
 all_goals (simp only [N0, *,Bool.true_and,Bool.false_and,Bool.and_true,Bool.and_false];try rfl)
theorem B5P (p x:B1) (st:St):S P 256 [B8 x,.fptr (B8 p) 0] st fun v st'=>v=.bool (x.id.toList==p.id.toList)∧st'=st:=by
 refine D6 [2] Tryz.func256 ?_
 exact ⟨rfl,rfl⟩
theorem A6J {α : Type} [Inhabited α] (e:Nat) (enc : α→AV) (l:List α) (i n:Nat) (f:Nat→AV) (hi:i≤l.length) (hn:n=i) (hf:∀ k,k<i→f k=enc (l.getD k default)) (st:St):A4 [.arr e n f] st [A6 e enc (l.take i)] st:=by
 subst hn
 have el:(l.take n).length=n:=by rw [List.length_take];omega
 have e2:A6 e enc (l.take n)=.arr e n (fun k=>enc ((l.take n).getD k default)):=by unfold A6;rw [el]
 rw [e2]
 refine A4.arr fun k hk=>?_
 rw [hf k hk]
 congr 1
 simp [List.getD_eq_getElem?_getD,List.getElem?_take_of_lt hk]
def A0j (l:List B1) (k:Nat) (p:B1):Bool:=J2 p&&!((l.take k).any fun x=>x.id.toList==p.id.toList)
def A0k (l:List B1):Bool:=decide ((l.length:Int)≤60)&&T3 l (A0j l)
theorem B5F (l:List B1) (hl:l.length≤Big) (hf:∀ p∈l,K1 p) (st:St):S P 175 [A6 15 B8 l] st fun v st'=>v=.bool (A0k l)∧st'=st:=by
 refine D6 [4] Tryz.func175 ?_
 refine B6 (fun h=>?_) (fun h=>?_)<;>rw [h]<;>simp only [decide_eq_true_eq,decide_eq_false_iff_not] at h
 ·conv=>whnf
  refine ⟨?_,rfl⟩
  rw [show A0k l=false by unfold A0k;rw [decide_eq_false (by omega),Bool.false_and]];rfl
 have ht:A0k l=T3 l (A0j l):=by unfold A0k;rw [decide_eq_true (by omega),Bool.true_and]
 conv=>whnf
 refine ⟨[0,8,9,10],fun m vs st'=>∃ i:Nat,i≤l.length∧(∀ k,k<i→A0j l k (l.getD k default)=true)∧m=l.length - i∧vs=[A6 15 B8 l,A6 15 B8 l,eI l.length,eI i]∧st'=st,?_,?_⟩
 ·conv=>whnf
  exact ⟨_,0,Nat.zero_le _,fun k hk=>absurd hk (by omega),rfl,rfl,rfl⟩
 ·rintro m vs st' ⟨i,hi,hok,rfl,rfl,rfl⟩
  conv=>whnf
  cases h:decide ((i:Int)<(l.length:Int))
  ·have:=of_decide_eq_false h
   conv=>whnf
   refine ⟨?_,rfl⟩
   rw [ht,T7 fun k hk=>hok k (by omega)];rfl
  ·have hi':i<l.length:=by have:=of_decide_eq_true h;omega
   conv=>whnf
   refine ⟨rfl,⟨by omega,by omega⟩,?_⟩
   have yes:A0j l i (l.getD (i:Int).toNat default)=true→∀ k,k<i+1→A0j l k (l.getD k default)=true:=fun h=>I1 hok h
   have no:A0j l i (l.getD (i:Int).toNat default)=false→A0k l=false:=fun h=>by rw [ht];exact Y5 hi' h
   have hmem:l.getD (i:Int).toNat default∈l:=by
    rw [Int.toNat_natCast,List.getD_eq_getElem?_getD,List.getElem?_eq_getElem hi'];exact List.getElem_mem hi'
   unfold A0j at yes no;conv=>whnf
   refine I7 (A5E (l.getD (i:Int).toNat default) (hf _ hmem) _) ?_
   refine B6 (fun h1=>?_) (fun h1=>?_)
   ·rw [h1];conv=>whnf
    refine ⟨?_,rfl⟩
    rw [no (by rw [show J2 (l.getD (i:Int).toNat default)=false by simpa using h1,Bool.false_and])];rfl
   ·rw [h1]
    have h1':J2 (l.getD (i:Int).toNat default)=true:=by simpa using h1
    conv=>whnf
    refine ⟨rfl,⟨by omega,by omega,by omega⟩,?_⟩;conv=>whnf
    refine F7 (A4.cons (A6J 15 B8 l i _ _ hi (by omega) (fun k hk=>by simp) _) (A4.keep _ _)) (B3 (B0f (l.take i) (by rw [List.length_take];omega) _ [.fptr (B8 (l.getD (i:Int).toNat default)) 0] (fun x=>x.id.toList==(l.getD (i:Int).toNat default).id.toList) _ fun x _=>B5P _ x _) ?_);conv=>whnf
    refine B6 (fun h2=>?_) (fun h2=>?_)
    ·rw [h2];conv=>whnf
     refine ⟨?_,rfl⟩
     rw [no (by rw [h2,Bool.not_true,Bool.and_false])];rfl
    ·rw [h2];conv=>whnf
     refine H4 ?_
     exact ⟨l.length - (i+1),by omega,i+1,by omega,yes (by rw [h1',h2];rfl),rfl,by rw [B7 (by omega)],rfl⟩
def A6f (x:Ab.Item):Bool:=!(!D0 x.sku||!D0 x.cat||decide (x.price<0)||decide (x.price>1000000000))
def A3k (l:List Ab.Item):Bool:=!decide ((l.length:Int)>500)&&(T3 l (fun _ x=>A6f x)&&A0n (l.map Ab.Item.sku))
theorem B7p (l:List Ab.Item) (st:St):S P 174 [A6 4 E9 l] st fun v st'=>v=.bool (A3k l)∧st'=st:=by
 refine A1R ?_
 refine D6 [5] Tryz.func174 ?_
 refine B6 (fun h=>?_) (fun h=>?_)<;>rw [h]
 ·conv=>whnf
  refine ⟨?_,E7.refl _⟩
  rw [show A3k l=false by unfold A3k;rw [h];rfl];rfl
 have hs:l.length≤500:=by simp only [decide_eq_false_iff_not] at h;omega
 have ht:A3k l=(T3 l (fun _ x=>A6f x)&&A0n (l.map Ab.Item.sku)):=by unfold A3k;rw [h,Bool.not_false,Bool.true_and]
 conv=>whnf
 refine ⟨[3,9,10,11],fun m vs st'=>∃ (i:Nat) (sv:AV),i≤l.length∧(∀ k,k<i→(fun (_:Nat) (x:Ab.Item)=>A6f x) k (l.getD k default)=true)∧m=l.length - i∧vs=[sv,A6 4 E9 l,eI l.length,eI i]∧I2 9 1 (fun k=>eS (Ab.Item.sku (l.getD k default))) st i sv st',?_,?_⟩
 ·conv=>whnf
  exact ⟨_,0,.emp,Nat.zero_le _,fun k hk=>absurd hk (by omega),rfl,rfl,I2.start _ _ _ _⟩
 ·rintro m vs st' ⟨i,sv,hi,hok,rfl,rfl,hc⟩
  conv=>whnf
  cases h:decide ((i:Int)<(l.length:Int))
  ·have:=of_decide_eq_false h
   obtain rfl:i=l.length:=by omega
   conv=>whnf
   refine F7 (hc.shift.trans (A8K Ab.Item.sku l st)) (B3 (A6F (l.map Ab.Item.sku) (by rw [List.length_map];omega) st) ?_);conv=>whnf
   refine ⟨?_,E7.refl _⟩
   rw [ht,T7 fun k hk=>hok k (by omega),Bool.true_and];rfl
  ·have hi':i<l.length:=by have:=of_decide_eq_true h;omega
   conv=>whnf
   refine ⟨rfl,⟨by omega,by omega⟩,?_⟩
   have yes:(fun (_:Nat) (x:Ab.Item)=>A6f x) i (l.getD (i:Int).toNat default)=true→∀ k,k<i+1→(fun (_:Nat) (x:Ab.Item)=>A6f x) k (l.getD k default)=true:=fun h=>I1 hok h
   have no:(fun (_:Nat) (x:Ab.Item)=>A6f x) i (l.getD (i:Int).toNat default)=false→A3k l=false:=fun h=>by rw [ht,Y5 hi' h,Bool.false_and]
   have hmem:l.getD (i:Int).toNat default∈l:=by
    rw [Int.toNat_natCast,List.getD_eq_getElem?_getD,List.getElem?_eq_getElem hi'];exact List.getElem_mem hi'
   have hsup:=hc.sup
   simp only [A6f] at yes no
   repeat' ((conv=>whnf);first | refine B3 (W4 _ _) ?_ | (refine B6 (fun h=>?_) (fun h=>?_)<;>rw [h]))
   all_goals (conv=>whnf)
   all_goals first
    | (refine ⟨?_,hsup⟩;rw [no (by first | (simp only [*,Bool.true_and,Bool.and_self,Bool.or_true,Bool.true_or,Bool.not_true];done) | simpa using h)];rfl)
    | skip
   refine I2.app rfl rfl rfl rfl rfl ?_ (by show (i+1) * 16≤140737488355328;omega) hc (fun sv' st'' hc'=>?_)
   ·rfl
   conv=>whnf
   refine H4 ?_
   exact ⟨l.length - (i+1),by omega,i+1,sv',by omega,yes (by first | (simp only [*,Bool.false_and,Bool.and_false,Bool.or_false,Bool.not_false];done) | simpa using h),rfl,by rw [B7 (by omega)],hc'⟩
def A5c (x:N1):Bool:=!(!D0 x.cat||!J9 0 10000 x.rate)
def X1 (z:N4):Bool:=!(!D0 z.name||!J9 0 10000 z.rest||!J9 0 10000 z.ship||decide ((z.rates.length:Int)>40))&&(T3 z.rates (fun _ x=>A5c x)&&A0n (z.rates.map N1.cat))
theorem B9Z (z:N4) (st:St):S P 257 [Z1 z] st fun v st'=>v=.bool (X1 z)∧st'=st:=by
 refine A1R ?_
 refine SyW [1,5] Tryz.func257 ?_
 repeat' ((conv=>whnf);first | refine B3 (W4 _ _) ?_ | refine B3 (A9a _ _) ?_ | (refine B6 (fun h=>?_) (fun h=>?_)<;>rw [h]))
 all_goals (conv=>whnf)
 all_goals first
  | (refine ⟨?_,E7.refl _⟩
     rw [show X1 z=false by unfold X1;simp only [*,Bool.true_or,Bool.or_true,Bool.not_true,Bool.false_and]]
     rfl)
  | skip
 have hs:z.rates.length≤40:=by simp only [decide_eq_false_iff_not] at h;omega
 have ht:X1 z=(T3 z.rates (fun _ x=>A5c x)&&A0n (z.rates.map N1.cat)):=by unfold X1;simp only [*,Bool.or_false,Bool.not_false,Bool.true_and]
 refine ⟨[3,29,30,31],fun m vs st'=>∃ (i:Nat) (sv:AV),i≤z.rates.length∧(∀ k,k<i→(fun (_:Nat) (x:N1)=>A5c x) k (z.rates.getD k default)=true)∧m=z.rates.length - i∧vs=[sv,A6 2 Z0 z.rates,eI z.rates.length,eI i]∧I2 9 1 (fun k=>eS (N1.cat (z.rates.getD k default))) st i sv st',?_,?_⟩
 ·conv=>whnf
  exact ⟨_,0,.emp,Nat.zero_le _,fun k hk=>absurd hk (by omega),rfl,rfl,I2.start _ _ _ _⟩
 ·rintro m vs st' ⟨i,sv,hi,hok,rfl,rfl,hc⟩
  conv=>whnf
  cases h:decide ((i:Int)<(z.rates.length:Int))
  ·have:=of_decide_eq_false h
   obtain rfl:i=z.rates.length:=by omega
   conv=>whnf
   refine F7 (hc.shift.trans (A8K N1.cat z.rates st)) (B3 (A6F (z.rates.map N1.cat) (by rw [List.length_map];omega) st) ?_);conv=>whnf
   refine ⟨?_,E7.refl _⟩
   rw [ht,T7 fun k hk=>hok k (by omega),Bool.true_and];rfl
  ·have hi':i<z.rates.length:=by have:=of_decide_eq_true h;omega
   conv=>whnf
   refine ⟨rfl,⟨by omega,by omega⟩,?_⟩
   have yes:(fun (_:Nat) (x:N1)=>A5c x) i (z.rates.getD (i:Int).toNat default)=true→∀ k,k<i+1→(fun (_:Nat) (x:N1)=>A5c x) k (z.rates.getD k default)=true:=fun h=>I1 hok h
   have no:(fun (_:Nat) (x:N1)=>A5c x) i (z.rates.getD (i:Int).toNat default)=false→X1 z=false:=fun h=>by rw [ht,Y5 hi' h,Bool.false_and]
   have hmem:z.rates.getD (i:Int).toNat default∈z.rates:=by
    rw [Int.toNat_natCast,List.getD_eq_getElem?_getD,List.getElem?_eq_getElem hi'];exact List.getElem_mem hi'
   have hsup:=hc.sup
   simp only [A5c] at yes no
   repeat' ((conv=>whnf);first | refine B3 (W4 _ _) ?_ | refine B3 (A9a _ _) ?_ | (refine B6 (fun h=>?_) (fun h=>?_)<;>rw [h]))
   all_goals (conv=>whnf)
   all_goals first
    | (refine ⟨?_,hsup⟩;rw [no (by first | (simp only [*,Bool.true_and,Bool.and_self,Bool.or_true,Bool.true_or,Bool.not_true];done) | simpa using h)];rfl)
    | skip
   refine I2.app rfl rfl rfl rfl rfl ?_ (by show (i+1) * 16≤140737488355328;omega) hc (fun sv' st'' hc'=>?_)
   ·rfl
   conv=>whnf
   refine H4 ?_
   exact ⟨z.rates.length - (i+1),by omega,i+1,sv',by omega,yes (by first | (simp only [*,Bool.false_and,Bool.and_false,Bool.or_false,Bool.not_false];done) | simpa using h),rfl,by rw [B7 (by omega)],hc'⟩
def A7t (x:Tax):Bool:=!(decide (x.round<0)||decide (x.round>2)||decide ((x.zones.length:Int)>20))&&(T3 x.zones (fun _ z=>X1 z)&&A0n (x.zones.map N4.name))
theorem B8A (x:Tax) (st:St):S P 176 [A1W x] st fun v st'=>v=.bool (A7t x)∧st'=st:=by
 refine A1R ?_
 refine SyW [1,5] Tryz.func176 ?_
 repeat' ((conv=>whnf);first  | (refine B6 (fun h=>?_) (fun h=>?_)<;>rw [h]))
 all_goals (conv=>whnf)
 all_goals first
  | (refine ⟨?_,E7.refl _⟩
     rw [show A7t x=false by unfold A7t;simp only [*,Bool.true_or,Bool.or_true,Bool.not_true,Bool.false_and]]
     rfl)
  | skip
 have hs:x.zones.length≤20:=by simp only [decide_eq_false_iff_not] at h;omega
 have ht:A7t x=(T3 x.zones (fun _ z=>X1 z)&&A0n (x.zones.map N4.name)):=by unfold A7t;simp only [*,Bool.or_false,Bool.not_false,Bool.true_and]
 refine ⟨[3,21,22,23],fun m vs st'=>∃ (i:Nat) (sv:AV),i≤x.zones.length∧(∀ k,k<i→(fun (_:Nat) (z:N4)=>X1 z) k (x.zones.getD k default)=true)∧m=x.zones.length - i∧vs=[sv,A6 4 Z1 x.zones,eI x.zones.length,eI i]∧I2 9 1 (fun k=>eS (N4.name (x.zones.getD k default))) st i sv st',?_,?_⟩
 ·conv=>whnf
  exact ⟨_,0,.emp,Nat.zero_le _,fun k hk=>absurd hk (by omega),rfl,rfl,I2.start _ _ _ _⟩
 ·rintro m vs st' ⟨i,sv,hi,hok,rfl,rfl,hc⟩
  conv=>whnf
  cases h:decide ((i:Int)<(x.zones.length:Int))
  ·have:=of_decide_eq_false h
   obtain rfl:i=x.zones.length:=by omega
   conv=>whnf
   refine F7 (hc.shift.trans (A8K N4.name x.zones st)) (B3 (A6F (x.zones.map N4.name) (by rw [List.length_map];omega) st) ?_);conv=>whnf
   refine ⟨?_,E7.refl _⟩
   rw [ht,T7 fun k hk=>hok k (by omega),Bool.true_and];rfl
  ·have hi':i<x.zones.length:=by have:=of_decide_eq_true h;omega
   conv=>whnf
   refine ⟨rfl,⟨by omega,by omega⟩,?_⟩
   have yes:(fun (_:Nat) (z:N4)=>X1 z) i (x.zones.getD (i:Int).toNat default)=true→∀ k,k<i+1→(fun (_:Nat) (z:N4)=>X1 z) k (x.zones.getD k default)=true:=fun h=>I1 hok h
   have no:(fun (_:Nat) (z:N4)=>X1 z) i (x.zones.getD (i:Int).toNat default)=false→A7t x=false:=fun h=>by rw [ht,Y5 hi' h,Bool.false_and]
   have hmem:x.zones.getD (i:Int).toNat default∈x.zones:=by
    rw [Int.toNat_natCast,List.getD_eq_getElem?_getD,List.getElem?_eq_getElem hi'];exact List.getElem_mem hi'
   have hsup:=hc.sup
   simp only [not_true] at yes no
   conv=>whnf
   refine I7 (B9Z (x.zones.getD (i:Int).toNat default) _) ?_
   refine B6 (fun h=>?_) (fun h=>?_)<;>rw [h]
   all_goals (conv=>whnf)
   all_goals first
    | (refine ⟨?_,hsup⟩;rw [no (by first | (simp only [*,Bool.true_and,Bool.and_self,Bool.or_true,Bool.true_or,Bool.not_true];done) | simpa using h)];rfl)
    | skip
   refine I2.app rfl rfl rfl rfl rfl ?_ (by show (i+1) * 16≤140737488355328;omega) hc (fun sv' st'' hc'=>?_)
   ·rfl
   conv=>whnf
   refine H4 ?_
   exact ⟨x.zones.length - (i+1),by omega,i+1,sv',by omega,yes (by first | (simp only [*,Bool.false_and,Bool.and_false,Bool.or_false,Bool.not_false];done) | simpa using h),rfl,by rw [B7 (by omega)],hc'⟩
def A4E (l:List Int) (i:Nat) (k:Int):Bool:=!(!J9 1 9 k||(l.take i).any fun y=>k==y)
def A6g (l:List Int):Bool:=T3 l (A4E l)
theorem B2j (l:List Int) (hl:l.length<9223372036854775807) (st:St):S P 259 [B4 l] st fun v st'=>v=.bool (A6g l)∧st'=st:=by
 refine D6 [] Tryz.func259 ?_
 refine ⟨[0,5,6,7],fun m vs st'=>∃ i:Nat,i≤l.length∧(∀ k,k<i→A4E l k (l.getD k default)=true)∧m=l.length - i∧vs=[B4 l,B4 l,eI l.length,eI i]∧st'=st,?_,?_⟩
 ·conv=>whnf
  exact ⟨_,0,Nat.zero_le _,fun k hk=>absurd hk (by omega),rfl,rfl,rfl⟩
 ·rintro m vs st' ⟨i,hi,hok,rfl,rfl,rfl⟩
  conv=>whnf
  cases h:decide ((i:Int)<(l.length:Int))
  ·have:=of_decide_eq_false h
   conv=>whnf
   refine ⟨?_,rfl⟩
   rw [show A6g l=true from T7 fun k hk=>hok k (by omega)];rfl
  ·have hi':i<l.length:=by have:=of_decide_eq_true h;omega
   conv=>whnf
   refine ⟨rfl,⟨by omega,by omega⟩,?_⟩
   have yes:A4E l i (l.getD (i:Int).toNat default)=true→∀ k,k<i+1→A4E l k (l.getD k default)=true:=fun h=>I1 hok h
   have no:A4E l i (l.getD (i:Int).toNat default)=false→A6g l=false:=fun h=>Y5 hi' h
   unfold A4E at yes no;conv=>whnf
   refine I7 (B1e _ _) ?_
   refine B6 (fun h1=>?_) (fun h1=>?_)
   ·rw [h1];conv=>whnf
    refine ⟨?_,rfl⟩
    rw [no (by rw [h1];rfl)];rfl
   ·rw [h1];conv=>whnf
    refine ⟨rfl,⟨by omega,by omega,by omega⟩,?_⟩;conv=>whnf
    refine F7 (A4.cons (A6J 1 eI l i _ _ hi (by omega) (fun k hk=>by simp) _) (A4.keep _ _)) (B3 (B5g (l.take i) (by rw [List.length_take];omega) _ _) ?_);conv=>whnf
    refine B6 (fun h2=>?_) (fun h2=>?_)
    ·rw [h2];conv=>whnf
     refine ⟨?_,rfl⟩
     rw [no (by rw [h2,Bool.or_true,Bool.not_true])];rfl
    ·rw [h2];conv=>whnf
     refine H4 ?_
     exact ⟨l.length - (i+1),by omega,i+1,by omega,yes (by rw [h1,h2];rfl),rfl,by rw [B7 (by omega)],rfl⟩
def A8U (p:A4l):Bool:=J9 0 100000 p.window&&J9 0 100000 p.grace&&decide (p.mode≥1)&&decide (p.mode≤3)&&J9 0 10000 p.restock&&A6g p.order&&A6g p.credit
structure A3D (r:O6):Prop where
 promos:r.promos.length≤Big
 fit:∀ p∈r.promos,K1 p
 order:r.policy.order.length<9223372036854775807
 credit:r.policy.credit.length<9223372036854775807
theorem B5E (p:A4l) (h1:p.order.length<9223372036854775807) (h2:p.credit.length<9223372036854775807) (st:St):S P 178 [B7a p] st fun v st'=>v=.bool (A8U p)∧st'=st:=by
 refine SyW [1] Tryz.func178 ?_
 repeat' ((conv=>whnf);first | refine B3 (B4S _ st) ?_ | refine B3 (A9a _ st) ?_ | refine B3 (B2j p.order h1 st) ?_ | refine B3 (B2j p.credit h2 st) ?_ | (refine B6 (fun h=>?_) (fun h=>?_)<;>rw [h]))
 all_goals (conv=>whnf)
 all_goals (refine ⟨?_,rfl⟩;show AV.bool _=AV.bool _;congr 1)
 all_goals (simp only [A8U, *,Bool.true_and,Bool.false_and,Bool.and_true,Bool.and_false,Bool.or_true,Bool.or_false,Bool.true_or,Bool.false_or,Bool.not_true,Bool.not_false,Bool.not_not];try rfl)
def A1w (r:O6):Bool:=A3k r.items&&A0k r.promos&&A7t r.tax&&B2A r.ship&&A8U r.policy
theorem B2x (r:O6) (hf:A3D r) (st:St):S P 95 [Q1 r] st fun v st'=>v=.bool (A1w r)∧st'=st:=by
 refine SyW [1] Tryz.func95 ?_
 repeat' ((conv=>whnf);first | refine B3 (B7p r.items st) ?_ | refine B3 (B5F r.promos hf.promos hf.fit st) ?_ | refine B3 (B8A r.tax st) ?_ | refine B3 (B9F r.ship st) ?_ | refine B3 (B5E r.policy hf.order hf.credit st) ?_ | (refine B6 (fun h=>?_) (fun h=>?_)<;>rw [h]))
 all_goals (conv=>whnf)
 all_goals (refine ⟨?_,rfl⟩;show AV.bool _=AV.bool _;congr 1)
 all_goals (simp only [A1w, *,Bool.true_and,Bool.false_and,Bool.and_true,Bool.and_false,Bool.or_true,Bool.or_false,Bool.true_or,Bool.false_or,Bool.not_true,Bool.not_false,Bool.not_not];try rfl)
end Go.Proofs.YtbajhapmlfbelaaGreat
namespace Go.Proofs.YtbajhapmlfbelaaGreat
open Go Go.Ab
theorem X6:∀ x:List UInt8,Op.bytesLess x x=false
 | []=>rfl
 | a::x=>by simp [Op.bytesLess,X6 x,UInt8.lt_irrefl]
theorem A9E:∀ x y z:List UInt8,Op.bytesLess x y=true→Op.bytesLess y z=true→Op.bytesLess x z=true
 | _,_,[],_,h=>by simp [Op.bytesLess] at h
 | _,[],_::_,h,_=>by simp [Op.bytesLess] at h
 | [],_::_,_::_,_,_=>by simp [Op.bytesLess]
 | a::x,b::y,c::z,h1,h2=>by
  simp only [Op.bytesLess,Bool.or_eq_true,Bool.and_eq_true,decide_eq_true_eq,beq_iff_eq] at *
  rcases h1 with h1 | ⟨rfl,h1⟩
  ·rcases h2 with h2 | ⟨rfl,h2⟩
   ·exact .inl (UInt8.lt_trans h1 h2)
   ·exact .inl h1
  ·rcases h2 with h2 | ⟨rfl,h2⟩
   ·exact .inl h2
   ·exact .inr ⟨rfl,A9E x y z h1 h2⟩
theorem B4L:∀ x y:List UInt8,Op.bytesLess x y=false→Op.bytesLess y x=false→x=y
 | [],[],_,_=>rfl
 | [],_::_,h,_=>by simp [Op.bytesLess] at h
 | _::_,[],_,h=>by simp [Op.bytesLess] at h
 | a::x,b::y,h1,h2=>by
  simp only [Op.bytesLess,Bool.or_eq_false_iff,Bool.and_eq_false_iff,decide_eq_false_iff_not,beq_eq_false_iff_ne] at *
  have hab:a=b:=by
   have n1:=UInt8.not_lt.1 h1.1
   have n2:=UInt8.not_lt.1 h2.1
   exact UInt8.le_antisymm n2 n1
  subst hab
  rw [B4L x y (h1.2.resolve_left (by simp)) (h2.2.resolve_left (by simp))]
theorem A3t (a:D9):X0 a a=false:=X6 _
theorem A8d {a b c:D9} (h1:X0 a b=true) (h2:X0 b c=true):X0 a c=true:=A9E _ _ _ h1 h2
theorem A4d {a b:D9} (h1:X0 a b=false) (h2:X0 b a=false):a.toList=b.toList:=B4L _ _ h1 h2
theorem A4L {a b:D9} (h:X0 a b=true):X0 b a=false:=by
 cases hb:X0 b a with
 | false=>rfl
 | true=>have:=A8d h hb;rw [A3t] at this;cases this
theorem A2K {a b c:D9} (h1:X0 b a=false) (h2:X0 c b=false):X0 c a=false:=by
 cases hca:X0 c a with
 | false=>rfl
 | true =>
  cases hab:X0 a b with
  | true=>have:=A8d hca hab;rw [this] at h2;cases h2
  | false =>
   have e:=A4d hab h1
   have:X0 c b=true:=by unfold X0 at *;rw [←e];exact hca
   rw [this] at h2;cases h2
theorem A8c {a a' b b':D9} (h1:a.toList=a'.toList) (h2:b.toList=b'.toList):X0 a b=X0 a' b':=by unfold X0;rw [h1,h2]
def A0V (l:List D9) (k:Nat):Bool:=k==0||!X0 (l.getD k default) (l.getD (k - 1) default)
theorem B0u {l:List D9} (h:∀ k,k<l.length→A0V l k=true) {a b:Nat} (hab:a≤b) (hb:b<l.length):X0 (l.getD b default) (l.getD a default)=false:=by
 induction b with
 | zero=>have:a=0:=by omega
         subst this;exact A3t _
 | succ b ih =>
  rcases Nat.lt_or_ge a (b+1) with hlt | hge
  ·have h1:=ih (by omega) (by omega)
   have h2:=h (b+1) hb
   simp only [A0V,Nat.add_one_ne_zero,beq_iff_eq,Bool.or_eq_true,Bool.not_eq_true',Nat.add_sub_cancel,false_or] at h2
   exact A2K h1 h2
  ·have:a=b+1:=by omega
   subst this;exact A3t _
end Go.Proofs.YtbajhapmlfbelaaGreat
namespace Go.Proofs.YtbajhapmlfbelaaGreat
open Go Go.Ab
attribute [local irreducible] upd del
theorem B8v (a:D9) (st:St):S P 263 [eS a] st fun v st'=>v=.bool false∧st'=st:=by
 refine D6 [] Tryz.func263 ?_
 refine ⟨?_,rfl⟩
 show AV.bool (!(a.toList==a.toList))=_
 simp
def A4t (a b:D9):Int:=if X0 a b=true then -1 else if X0 b a=true then 1 else 0
theorem B2e (a b:D9):(!(Op.bytesLess a.toList b.toList||a.toList==b.toList))=X0 b a:=by
 cases h1:Op.bytesLess a.toList b.toList with
 | true=>rw [A4L (a:=a) (b:=b) h1];rfl
 | false =>
  cases h2:X0 b a with
  | true =>
   have hne:(a.toList==b.toList)=false:=by
    rw [beq_eq_false_iff_ne];intro e
    unfold X0 at h2;rw [e,X6] at h2;cases h2
   rw [hne];rfl
  | false=>rw [A4d (a:=a) (b:=b) h1 h2];simp
theorem B8n (a b:D9) (st:St):S P 192 [eS a,eS b] st fun v st'=>v=eI (A4t a b)∧st'=st:=by
 refine D6 [] Tryz.func192 ?_
 refine I7 (B8v _ _) ?_
 refine I7 (B8v _ _) ?_
 refine B6 (fun h=>?_) (fun h=>?_)<;>rw [h]
 ·conv=>whnf
  exact ⟨by rw [show A4t a b = -1 from if_pos h];rfl,rfl⟩
 ·have h0:¬ X0 a b=true:=by rw [show X0 a b=false from h];simp
  conv=>whnf
  refine B6 (fun h2=>?_) (fun h2=>?_)
  ·have h3:X0 b a=true:=by rw [←B2e a b];exact h2
   rw [h2];conv=>whnf
   exact ⟨by rw [show A4t a b=1 by unfold A4t;rw [if_neg h0,if_pos h3]];rfl,rfl⟩
  ·have h3:¬ X0 b a=true:=by rw [←B2e a b,Bool.not_eq_true];exact h2
   rw [h2];conv=>whnf
   exact ⟨by rw [show A4t a b=0 by unfold A4t;rw [if_neg h0,if_neg h3]];rfl,rfl⟩
theorem A8t (a b:Ab.Item) (st:St):S P 201 [E9 a,E9 b] st fun v st'=>v=eI (A4t a.sku b.sku)∧st'=st:=by
 refine D6 [2,3] Tryz.func201 ?_
 refine I7 (B8n _ _ _) ?_
 exact ⟨rfl,rfl⟩
theorem A5V (a b:D9):decide (A4t a b<0)=X0 a b:=by
 unfold A4t
 split
 ·rename_i h;rw [h];rfl
 ·rename_i h
  rw [Bool.not_eq_true] at h
  rw [h];split<;>rfl
theorem B2W (a b:D9):(A4t a b==0)=(a.toList==b.toList):=by
 unfold A4t
 split
 ·rename_i h
  have:(a.toList==b.toList)=false:=by
   rw [beq_eq_false_iff_ne];intro e
   unfold X0 at h;rw [e,X6] at h;cases h
  rw [this];rfl
 ·split
  ·rename_i h1 h
   have:(a.toList==b.toList)=false:=by
    rw [beq_eq_false_iff_ne];intro e
    unfold X0 at h;rw [e,X6] at h;cases h
   rw [this];rfl
  ·rename_i h1 h2
   rw [Bool.not_eq_true] at h1 h2
   rw [A4d h1 h2];simp
abbrev skus (l:List Ab.Item):List D9:=l.map Ab.Item.sku
theorem A9f (l:List Ab.Item) {k:Nat} (hk:k<l.length):(skus l).getD k default=(l.getD k default).sku:=F1 Ab.Item.sku l hk
def A4f (l:List D9):Bool:=(List.range l.length).all (A0V l)
theorem B6b (l:List Ab.Item) (hl:l.length≤9223372036854775807) (st:St):S P 200 [A6 4 E9 l,.fn (.func 201) [] []] st fun v st'=>v=.bool (A4f (skus l))∧st'=st:=by
 refine D6 [] Tryz.func200 ?_
 have hlen:(skus l).length=l.length:=List.length_map ..
 refine ⟨[0,1,5],fun m vs st'=>∃ i:Int,-1≤i∧i<l.length∧(∀ k:Nat,i<k→k<l.length→A0V (skus l) k=true)∧m=(i+1).toNat∧vs=[A6 4 E9 l,.fn (.func 201) [] [],eI i]∧st'=st,?_,?_⟩
 ·conv=>whnf
  have w:IntKind.i64.wrap ((l.length:Int) - 1)=(l.length:Int) - 1:=A5 (by omega) (by omega)
  exact ⟨_,(l.length:Int) - 1,by omega,by omega,fun k h1 h2=>by omega,rfl,by rw [w],rfl⟩
 ·rintro m vs st' ⟨i,h0,hi,hok,rfl,rfl,rfl⟩
  conv=>whnf
  cases h:decide (i>0)
  ·have:=of_decide_eq_false h
   conv=>whnf
   refine ⟨?_,rfl⟩
   rw [show A4f (skus l)=true from B0K fun k hk=>?_];rfl
   rw [hlen] at hk
   rcases Nat.eq_zero_or_pos k with e | e
   ·subst e;rfl
   ·exact hok k (by omega) hk
  ·have hp:=of_decide_eq_true h
   have w:IntKind.i64.wrap (i - 1)=i - 1:=A5 (by omega) (by omega)
   conv=>whnf
   refine ⟨[],[],[0,1,2,3,4,5,6,7,8,9,10,11],by kernel_rfl,?_⟩;conv=>whnf
   refine I3 ?_
   rw [w]
   refine I3 ?_
   refine cqW (A8t (l.getD i.toNat default) (l.getD (i - 1).toNat default) _) ?_
   rw [A5V]
   have e:A0V (skus l) i.toNat=!X0 (l.getD i.toNat default).sku (l.getD (i - 1).toNat default).sku:=by
    unfold A0V
    rw [beq_false_of_ne (by omega),Bool.false_or,A9f l (by omega),A9f l (by omega),show i.toNat - 1=(i - 1).toNat by omega]
   refine B6 (fun h2=>?_) (fun h2=>?_)
   ·rw [h2] at e ⊢;conv=>whnf
    refine ⟨?_,rfl⟩
    rw [show A4f (skus l)=false from A0O (k:=i.toNat) (by omega) e];rfl
   ·rw [h2] at e ⊢;conv=>whnf
    refine H4 ?_
    exact ⟨i.toNat,by omega,i - 1,by omega,by omega,fun k h1 h2=>by
     rcases (by omega:k=i.toNat∨i<k) with e' | e'
     ·rw [e'];exact e
     ·exact hok k e' h2,by omega,by rw [w],rfl⟩
theorem B7f (s:D9) (x:Ab.Item) (st:St):S P 203 [E9 x,.fptr (eS s) 0] st fun v st'=>v=.bool (x.sku.toList==s.toList)∧st'=st:=by
 refine D6 [2] Tryz.func203 ?_
 exact ⟨rfl,rfl⟩
abbrev R7 (l:List Ab.Item) (s:D9):Int:=idx (fun x=>x.sku.toList==s.toList) l
theorem B7m {i j:Int} (hi:0≤i) (hij:i<j) (hj:j≤9223372036854775807):IntKind.i64.wrap ((IntKind.u64.wrap (IntKind.i64.wrap (i+j))).fdiv (2 ^ (min (1:Int).toNat IntKind.u64.bits)))=(i+j) / 2:=by
 have w:IntKind.u64.wrap (IntKind.i64.wrap (i+j))=i+j:=by
  rw [IntKind.wrap_i64]
  show (_:Int) % 18446744073709551616=_
  omega
 rw [w]
 rw [show (min (1:Int).toNat IntKind.u64.bits)=1 from rfl,Int.fdiv_eq_ediv_of_nonneg _ (by decide)]
 rw [show ((2:Int) ^ 1)=2 from rfl,A5 (x:=(i+j) / 2) (by omega) (by omega)]
theorem B5Q (l:List Ab.Item) (x:Ab.Item) (hl:l.length≤9223372036854775807) (hs:A4f (skus l)=true) (st:St) :
  S P 204 [A6 4 E9 l,E9 x,.fn (.func 201) [] []] st fun v st'=>(∃ (i:Nat) (b:Bool),v=.tuple [eI i,.bool b]∧(if b=true then R7 l x.sku=i else R7 l x.sku = -1))∧st'=st:=by
 refine D6 [4] Tryz.func204 ?_
 have hlen:(skus l).length=l.length:=List.length_map ..
 have hmono:∀ a b:Nat,a≤b→b<l.length→X0 (l.getD b default).sku (l.getD a default).sku=false:=fun a b hab hb=>by
  have:=B0u (l:=skus l) (fun k hk=>List.all_eq_true.1 hs k (List.mem_range.2 hk)) hab (by omega)
  rwa [A9f l hb,A9f l (by omega)] at this
 refine ⟨[0,2,4,8,9,10],fun m vs st'=>∃ i j:Nat,i≤j∧j≤l.length∧(∀ k,k<i→X0 (l.getD k default).sku x.sku=true)∧(∀ k,j≤k→k<l.length→X0 (l.getD k default).sku x.sku=false)∧m=j - i ∧
  vs=[A6 4 E9 l,.fn (.func 201) [] [],.fptr (E9 x) 0,eI l.length,eI i,eI j]∧st'=st,?_,?_⟩
 ·conv=>whnf
  exact ⟨_,0,l.length,Nat.zero_le _,Nat.le_refl _,fun k hk=>absurd hk (by omega),fun k h1 h2=>absurd h1 (by omega),rfl,rfl,rfl⟩
 ·rintro m vs st' ⟨i,j,hij,hj,hlo,hhi,rfl,rfl,rfl⟩
  conv=>whnf
  cases h:decide ((i:Int)<(j:Int))
  ·have:=of_decide_eq_false h
   obtain rfl:i=j:=by omega
   conv=>whnf
   refine ⟨[],[],[0,1,2,3,4,5,6,7,8,9,10,11,12,13,14,15],by kernel_rfl,?_⟩;conv=>whnf
   have hne:∀ k,k<i→((l.getD k default).sku.toList==x.sku.toList)=false:=fun k hk=>by
    rw [beq_eq_false_iff_ne];intro e
    have:=hlo k hk
    unfold X0 at this;rw [e,X6] at this;cases this
   refine B6 (fun h1=>?_) (fun h1=>?_)<;>rw [h1]<;>simp only [decide_eq_true_eq,decide_eq_false_iff_not] at h1
   ·conv=>whnf
    refine I3 ?_
    refine cqW (A8t (l.getD (i:Int).toNat default) x _) ?_
    rw [B2W]
    refine ⟨⟨i,(l.getD (i:Int).toNat default).sku.toList==x.sku.toList,rfl,?_⟩,rfl⟩
    split
    ·rename_i he
     exact U2 (by omega) hne he
    ·rename_i he
     rw [Bool.not_eq_true] at he
     have hlt:X0 (l.getD i default).sku x.sku=false:=hhi i (Nat.le_refl _) (by omega)
     refine K2 fun k hk=>?_
     rcases Nat.lt_or_ge k i with hki | hki
     ·exact hne k hki
     ·rw [beq_eq_false_iff_ne];intro e
      have h3:=hmono i k hki hk
      rw [beq_eq_false_iff_ne] at he
      refine he (A4d hlt ?_)
      rw [←A8c (a:=(l.getD k default).sku) e rfl];exact h3
   ·conv=>whnf
    refine ⟨⟨i,false,rfl,?_⟩,rfl⟩
    rw [if_neg (by simp)]
    exact K2 fun k hk=>hne k (by omega)
  ·have hlt:=of_decide_eq_true h
   conv=>whnf
   rw [B7m (i:=i) (j:=j) (by omega) (by omega) (by omega)]
   have eh:((i:Int)+(j:Int)) / 2=(((i+j) / 2:Nat):Int):=by omega
   rw [eh]
   generalize hh:(i+j) / 2=mid at *
   refine ⟨[],[],[0,1,2,3,4,5,6,7],by kernel_rfl,?_⟩;conv=>whnf
   refine I3 ?_
   refine cqW (A8t (l.getD (mid:Int).toNat default) x _) ?_
   rw [A5V]
   refine B6 (fun h1=>?_) (fun h1=>?_)
   ·have h1':X0 (l.getD mid default).sku x.sku=true:=h1
    rw [h1];conv=>whnf
    refine H4 ?_
    refine ⟨j - (mid+1),by omega,mid+1,j,by omega,hj,fun k hk=>?_,hhi,rfl,by rw [B7 (by omega)],rfl⟩
    cases hk2:X0 (l.getD k default).sku x.sku with
    | true=>rfl
    | false =>
     have h3:=hmono k mid (by omega) (by omega)
     have:=A2K hk2 (show X0 (l.getD mid default).sku (l.getD k default).sku=false from h3)
     rw [h1'] at this
     cases this
   ·have h1':X0 (l.getD mid default).sku x.sku=false:=h1
    rw [h1];conv=>whnf
    refine H4 ?_
    refine ⟨mid - i,by omega,i,mid,by omega,by omega,hlo,fun k h2 h3=>?_,rfl,rfl,rfl⟩
    exact A2K (b:=(l.getD mid default).sku) (by exact h1') (hmono mid k h2 h3)
theorem B0X (l:List Ab.Item) (s:D9) (hl:l.length≤9223372036854775807) (st:St):S P 114 [A6 4 E9 l,eS s] st fun v st'=>v=eI (R7 l s)∧st'=st:=by
 refine D6 [3,5] Tryz.func114 ?_
 refine I7 (B6b l (by omega) _) ?_
 refine B6 (fun h=>?_) (fun h=>?_)
 ·rw [h];conv=>whnf
  refine I7 (A8H l (by omega) _ [.fptr (eS s) 0] (fun x=>x.sku.toList==s.toList) _ fun x _=>B7f s x _) ?_
  exact ⟨rfl,rfl⟩
 ·rw [h]
  have hs:A4f (skus l)=true:=by simpa using h
  conv=>whnf
  refine call (B5Q l ⟨s,⟨#[]⟩,0,false⟩ hl hs _) (fun v st' hv=>?_)
  obtain ⟨⟨i,b,rfl,hb⟩,rfl⟩:=hv
  conv=>whnf
  cases b with
  | true =>
   conv=>whnf
   rw [if_pos rfl] at hb
   exact ⟨by rw [show R7 l s=i from hb];rfl,rfl⟩
  | false =>
   conv=>whnf
   rw [if_neg (by simp)] at hb
   exact ⟨by rw [show R7 l s = -1 from hb];rfl,rfl⟩
def R0 (l:List F6):Int:=l.foldl (fun s x=>s+x.qty) 0
def Q2 (l:List F6):Int:=l.foldl (fun s x=>s+x.qty * x.price) 0
theorem A2E (x:F6):A0M x=true↔(0≤x.qty∧x.qty≤100000)∧(0≤x.price∧x.price≤1000000000):=by
 simp [A0M,J9]
theorem B5o {x:F6} (h:A0M x=true):0≤x.qty * x.price∧x.qty * x.price≤100000000000000:=by
 obtain ⟨⟨a,b⟩,c,d⟩:=(A2E x).1 h
 exact ⟨Int.mul_nonneg a c,Int.mul_le_mul b d c (by omega)⟩
theorem B9P (l:List F6) (hl:l.length≤1000) (hok:∀ x∈l,A0M x=true) (st:St):S P 276 [A6 3 G3 l] st fun v st'=>v=.tuple [eI (R0 l),eI (Q2 l)]∧st'=st:=by
 refine D6 [7] Tryz.func276 ?_
 refine ⟨[4,5,8,9,10],fun m vs st'=>∃ i:Nat,i≤l.length∧(0≤R0 (l.take i)∧R0 (l.take i)≤i * 100000)∧(0≤Q2 (l.take i)∧Q2 (l.take i)≤i * 100000000000000)∧m=l.length - i∧vs=[eI (R0 (l.take i)),eI (Q2 (l.take i)),A6 3 G3 l,eI l.length,eI i]∧st'=st,?_,?_⟩
 ·conv=>whnf
  exact ⟨_,0,Nat.zero_le _,⟨Int.le_refl _,by simp [R0]⟩,⟨Int.le_refl _,by simp [Q2]⟩,rfl,rfl,rfl⟩
 ·rintro m vs st' ⟨i,hi,hu,hg,rfl,rfl,rfl⟩
  conv=>whnf
  cases h:decide ((i:Int)<(l.length:Int))
  ·have:=of_decide_eq_false h
   obtain rfl:i=l.length:=by omega
   conv=>whnf
   refine ⟨?_,rfl⟩
   rw [List.take_length];rfl
  ·have hi':i<l.length:=by have:=of_decide_eq_true h;omega
   have hmem:l.getD (i:Int).toNat default∈l:=by
    rw [Int.toNat_natCast,List.getD_eq_getElem?_getD,List.getElem?_eq_getElem hi'];exact List.getElem_mem hi'
   have hx:=hok _ hmem
   obtain ⟨⟨q0,q1⟩,_⟩:=(A2E _).1 hx
   obtain ⟨m0,m1⟩:=B5o hx
   have eu:R0 (l.take (i+1))=R0 (l.take i)+(l.getD (i:Int).toNat default).qty:=H5 hi' _ _
   have eg:Q2 (l.take (i+1))=Q2 (l.take i)+(l.getD (i:Int).toNat default).qty * (l.getD (i:Int).toNat default).price:=H5 hi' _ _
   have w1:IntKind.i64.wrap (R0 (l.take i)+(l.getD (i:Int).toNat default).qty)=R0 (l.take (i+1)):=by rw [eu];exact A5 (by omega) (by omega)
   have w2:IntKind.i64.wrap ((l.getD (i:Int).toNat default).qty * (l.getD (i:Int).toNat default).price)=(l.getD (i:Int).toNat default).qty * (l.getD (i:Int).toNat default).price:=A5 (by omega) (by omega)
   have w3:IntKind.i64.wrap (Q2 (l.take i)+(l.getD (i:Int).toNat default).qty * (l.getD (i:Int).toNat default).price)=Q2 (l.take (i+1)):=by rw [eg];exact A5 (by omega) (by omega)
   conv=>whnf
   refine I3 ?_
   refine H4 ?_
   refine ⟨l.length - (i+1),by omega,i+1,by omega,?_,?_,rfl,?_,rfl⟩
   ·rw [eu];omega
   ·rw [eg];omega
   ·rw [B7 (by omega),←w1,←w3,w2]
def N2 (kn:D9→Bool) (x:F6):Bool:=!(kn x.sku&&A0M x)
def T9 (kn:D9→Bool) (l:List F6):Int :=
 if l.length>1000 then 6 else match l.find? (N2 kn) with
  | some x=>if kn x.sku=true then 2 else 7
  | none=>if (decide (R0 l>100000)||decide (Q2 l>10000000000000))=true then 5 else 0
theorem A4x {α : Type} [Inhabited α] {p : α→Bool} {l:List α} {i:Nat} (hi:i<l.length) (h:∀ k,k<i→p (l.getD k default)=false) (hp:p (l.getD i default)=true):l.find? p=some (l.getD i default):=by
 induction l generalizing i with
 | nil=>simp at hi
 | cons a l ih =>
  cases i with
  | zero=>simp only [List.getD_cons_zero] at hp ⊢;rw [List.find?_cons_of_pos hp]
  | succ i =>
   have h0:=h 0 (by omega)
   simp only [List.getD_cons_zero] at h0
   rw [List.find?_cons_of_neg (by simp [h0])]
   simp only [List.getD_cons_succ] at hp ⊢
   exact ih (by simpa using hi) (fun k hk=>by simpa using h (k+1) (by omega)) hp
theorem A7J {α : Type} [Inhabited α] {p : α→Bool} {l:List α} (h:∀ k,k<l.length→p (l.getD k default)=false):l.find? p=none:=by
 rw [List.find?_eq_none]
 intro x hx
 obtain ⟨i,hi,rfl⟩:=List.getElem_of_mem hx
 have:=h i hi
 simpa [hi] using this
theorem A7 {α : Type} [Inhabited α] {l:List α} {i:Nat} (hi:i<l.length):l.getD i default∈l:=by
 rw [List.getD_eq_getElem?_getD,List.getElem?_eq_getElem hi];exact List.getElem_mem hi
theorem D3 {α : Type} [Inhabited α] {l:List α} {x : α} (h:x∈l):∃ i,i<l.length∧x=l.getD i default:=by
 obtain ⟨i,hi,rfl⟩:=List.getElem_of_mem h
 exact ⟨i,hi,by simp [hi]⟩
theorem B1X (l:List F6) (kn:D9→Bool) (g:FuncId) (cs:List AV) (st:St) (hg:∀ x∈l,S P g (eS x.sku::cs) st fun v st'=>v=.bool (kn x.sku)∧st'=st) :
  S P 195 [A6 3 G3 l,.fn (.func g) [] cs] st fun v st'=>v=eI (T9 kn l)∧st'=st:=by
 refine D6 [6] Tryz.func195 ?_
 refine B6 (fun h=>?_) (fun h=>?_)<;>rw [h]<;>simp only [decide_eq_true_eq,decide_eq_false_iff_not] at h
 ·conv=>whnf
  exact ⟨by rw [show T9 kn l=6 from if_pos (by omega)];rfl,rfl⟩
 have hs:l.length≤1000:=by omega
 have hc:T9 kn l=match l.find? (N2 kn) with
  | some x=>if kn x.sku=true then 2 else 7
  | none=>if (decide (R0 l>100000)||decide (Q2 l>10000000000000))=true then 5 else 0:=if_neg (by omega)
 conv=>whnf
 refine ⟨[0,1,12,13,14],fun m vs st'=>∃ i:Nat,i≤l.length∧(∀ k,k<i→N2 kn (l.getD k default)=false)∧m=l.length - i∧vs=[A6 3 G3 l,.fn (.func g) [] cs,A6 3 G3 l,eI l.length,eI i]∧st'=st,?_,?_⟩
 ·conv=>whnf
  exact ⟨_,0,Nat.zero_le _,fun k hk=>absurd hk (by omega),rfl,rfl,rfl⟩
 ·rintro m vs st' ⟨i,hi,hok,rfl,rfl,rfl⟩
  conv=>whnf
  cases h:decide ((i:Int)<(l.length:Int))
  ·have:=of_decide_eq_false h
   rw [A7J fun k hk=>hok k (by omega)] at hc
   have hall:∀ x∈l,A0M x=true:=fun x hx=>by
    obtain ⟨k,hk,rfl⟩:=D3 hx
    have:=hok k (by omega)
    simp only [N2,Bool.not_eq_false',Bool.and_eq_true] at this
    exact this.2
   conv=>whnf
   refine I7 (B9P l hs hall _) ?_
   refine B6 (fun h1=>?_) (fun h1=>?_)
   ·rw [h1] at hc ⊢;conv=>whnf
    exact ⟨by rw [hc];rfl,rfl⟩
   ·rw [h1] at hc ⊢;conv=>whnf
    refine B6 (fun h2=>?_) (fun h2=>?_)
    ·rw [h2] at hc ⊢;conv=>whnf
     exact ⟨by rw [hc];rfl,rfl⟩
    ·rw [h2] at hc ⊢;conv=>whnf
     exact ⟨by rw [hc];rfl,rfl⟩
  ·have hi':i<l.length:=by have:=of_decide_eq_true h;omega
   have hmem:l.getD (i:Int).toNat default∈l:=A7 hi'
   conv=>whnf
   refine I3 ?_
   refine I7 (hg _ hmem) ?_
   refine B6 (fun h1=>?_) (fun h1=>?_)
   ·have hk:kn (l.getD (i:Int).toNat default).sku=false:=by simpa using h1
    rw [h1];conv=>whnf
    rw [A4x hi' hok (by show N2 kn (l.getD (i:Int).toNat default)=true;unfold N2;rw [hk];rfl)] at hc
    simp only at hc
    rw [if_neg (by rw [show kn (l.getD i default).sku=false from hk];simp)] at hc
    exact ⟨by rw [hc];rfl,rfl⟩
   ·have hk:kn (l.getD (i:Int).toNat default).sku=true:=by simpa using h1
    rw [h1];conv=>whnf
    refine I7 (B9j (l.getD (i:Int).toNat default) _) ?_
    refine B6 (fun h2=>?_) (fun h2=>?_)
    ·have hl:A0M (l.getD (i:Int).toNat default)=false:=by simpa using h2
     rw [h2];conv=>whnf
     rw [A4x hi' hok (by show N2 kn (l.getD (i:Int).toNat default)=true;unfold N2;rw [hl,Bool.and_false];rfl)] at hc
     simp only at hc
     rw [if_pos (show kn (l.getD i default).sku=true from hk)] at hc
     exact ⟨by rw [hc];rfl,rfl⟩
    ·have hl:A0M (l.getD (i:Int).toNat default)=true:=by simpa using h2
     rw [h2];conv=>whnf
     refine H4 ?_
     exact ⟨l.length - (i+1),by omega,i+1,by omega,I1 hok (by show N2 kn (l.getD (i:Int).toNat default)=false;unfold N2;rw [hk,hl];rfl),rfl,by rw [B7 (by omega)],rfl⟩
theorem B4z (s:D9) (st:St):S P 234 [eS s] st fun v st'=>v=.bool true∧st'=st:=by
 refine D6 [] Tryz.func234 ?_
 exact ⟨rfl,rfl⟩
theorem C0u (l:List F6) (st:St):S P 144 [A6 3 G3 l] st fun v st'=>v=.bool (T9 (fun _=>true) l==0)∧st'=st:=by
 refine D6 [] Tryz.func144 ?_
 refine I7 (B1X l (fun _=>true) _ [] _ fun x _=>B4z x.sku _) ?_
 exact ⟨rfl,rfl⟩
theorem B7q (items:List Ab.Item) (hl:items.length≤9223372036854775807) (s:D9) (st:St):S P 196 [eS s,.fptr (A6 4 E9 items) 0] st fun v st'=>v=.bool (decide (R7 items s≥0))∧st'=st:=by
 refine D6 [] Tryz.func196 ?_
 refine I7 (B0X items s hl _) ?_
 exact ⟨rfl,rfl⟩
def known (items:List Ab.Item) (s:D9):Bool:=decide (R7 items s≥0)
theorem B6E (items:List Ab.Item) (l:List F6) (hl:items.length≤9223372036854775807) (st:St):S P 102 [A6 4 E9 items,A6 3 G3 l] st fun v st'=>v=eI (T9 (known items) l)∧st'=st:=by
 refine D6 [2] Tryz.func102 ?_
 refine I7 (B1X l (known items) _ [.fptr (A6 4 E9 items) 0] _ fun x _=>B7q items hl x.sku _) ?_
 exact ⟨rfl,rfl⟩
def C2 (items:List Ab.Item) (l:List F6):List Ab.Item:=l.map fun x=>items.getD (R7 items x.sku).toNat default
theorem A7M (items:List Ab.Item) (l:List F6) (hi:items.length≤9223372036854775807) (hl:l.length≤1000) (hk:∀ x∈l,known items x.sku=true) (st:St):S P 75 [A6 4 E9 items,A6 3 G3 l] st fun v st'=>v=A6 4 E9 (C2 items l)∧st'=st:=by
 have he:A6 4 E9 (C2 items l)=.arr 4 l.length (fun k=>E9 ((C2 items l).getD k default)):=by unfold A6;rw [show (C2 items l).length=l.length from List.length_map ..]
 rw [he]
 refine B4o (ty:=64) ?_
 refine D6 [7] Tryz.func75 ?_
 refine ⟨[0,5,9,10,11],fun m vs st'=>∃ (i:Nat) (sv:AV),i≤l.length∧m=l.length - i∧vs=[A6 4 E9 items,sv,A6 3 G3 l,eI l.length,eI i]∧I2 64 4 (fun k=>E9 ((C2 items l).getD k default)) st i sv st',?_,?_⟩
 ·conv=>whnf
  exact ⟨_,0,.emp,Nat.zero_le _,rfl,rfl,I2.start _ _ _ _⟩
 ·rintro m vs st' ⟨i,sv,hi,rfl,rfl,hc⟩
  conv=>whnf
  cases h:decide ((i:Int)<(l.length:Int))
  ·have:=of_decide_eq_false h
   obtain rfl:i=l.length:=by omega
   conv=>whnf
   exact hc
  ·have hi':i<l.length:=by have:=of_decide_eq_true h;omega
   have hmem:l.getD (i:Int).toNat default∈l:=A7 hi'
   have hkn:=hk _ hmem
   simp only [known,decide_eq_true_eq] at hkn
   have hlt:=(A8E (fun x:Ab.Item=>x.sku.toList==(l.getD (i:Int).toNat default).sku.toList) items).2
   have hlt:R7 items (l.getD (i:Int).toNat default).sku<(items.length:Int):=hlt
   conv=>whnf
   refine I3 ?_
   refine I7 (B0X items (l.getD (i:Int).toNat default).sku (by omega) _) ?_
   refine B6 (fun h1=>?_) (fun h1=>?_)
   ·exact absurd (of_decide_eq_true h1) (by omega)
   ·rw [h1];conv=>whnf
    refine I3 ?_
    refine I2.app rfl rfl rfl rfl rfl ?_ (by show (i+1) * 48≤140737488355328;omega) hc (fun sv' st'' hc'=>?_)
    ·have e:(C2 items l).getD i default=items.getD (R7 items (l.getD i default).sku).toNat default:=F1 (fun x:F6=>items.getD (R7 items x.sku).toNat default) l hi'
     rw [e];rfl
    conv=>whnf
    refine H4 ?_
    exact ⟨l.length - (i+1),by omega,i+1,sv',by omega,rfl,by rw [B7 (by omega)],hc'⟩
end Go.Proofs.YtbajhapmlfbelaaGreat
namespace Go.Ab
abbrev QE:=Int×Int
def E1 (a b:QE):Bool:=decide (a.1>b.1)||(a.1==b.1&&decide (a.2<b.2))
theorem A4I (a b:QE):E1 a b=true↔a.1>b.1∨(a.1=b.1∧a.2<b.2):=by simp [E1]
theorem Z4 (a b:QE):E1 a b=false↔¬(a.1>b.1∨(a.1=b.1∧a.2<b.2)):=by rw [←A4I,Bool.not_eq_true]
theorem R9 {a b:QE} (h:E1 a b=true):E1 b a=false:=by rw [A4I] at h;rw [Z4];omega
theorem X4 (a:QE):E1 a a=false:=by rw [Z4];omega
theorem R8 {a b c:QE} (h:E1 a b=false) (k:E1 b c=false):E1 a c=false:=by rw [Z4] at *;omega
theorem B9k {a b c:QE} (h:E1 a b=false) (k:E1 c b=true):E1 a c=false:=by rw [Z4] at *;rw [A4I] at k;omega
theorem B3B {a b:QE} (h:E1 a b=false) (k:E1 b a=false):a=b:=by
 rw [Z4] at *
 exact Prod.ext (by omega) (by omega)
abbrev at_ (l:List QE) (k:Nat):QE:=l.getD k default
def swp (l:List QE) (i j:Nat):List QE:=(l.set i (at_ l j)).set j (at_ l i)
theorem A9q (l:List QE) (i j:Nat):(swp l i j).length=l.length:=by simp [swp]
theorem A3w {l:List QE} {i j:Nat} (hi:i<l.length) (hj:j<l.length) (k:Nat):at_ (swp l i j) k=if k=j then at_ l i else if k=i then at_ l j else at_ l k:=by
 unfold swp at_
 simp only [List.getD_eq_getElem?_getD,List.getElem?_set,List.length_set]
 by_cases h1:k=j
 ·subst h1;simp [hj]
 ·rw [if_neg (fun e=>h1 e.symm),if_neg h1]
  by_cases h2:k=i
  ·subst h2;simp [hi]
  ·rw [if_neg (fun e=>h2 e.symm),if_neg h2]
theorem A6R {l:List QE} {i j:Nat} (hi:i<l.length) (hj:j<l.length):(swp l i j).Perm l:=by
 have e1:at_ l j=l[j]:=by simp [at_,hj]
 have e2:at_ l i=l[i]:=by simp [at_,hi]
 unfold swp
 rw [e1,e2]
 exact List.set_set_perm hi hj
def Nah (l:List QE) (c p:Nat):Prop:=E1 (at_ l c) (at_ l p)=false
def M8 (c:Nat):Nat:=(c - 1) / 2
def A1O (l:List QE) (m:Nat):Prop:=∀ c,0<c→c<m→Nah l c (M8 c)
structure Rise (l:List QE) (m j:Nat):Prop where
 a:∀ c,0<c→c<m→c≠j→Nah l c (M8 c)
 b:∀ c,0<c→c<m→M8 c=j→0<j→Nah l c (M8 j)
structure Sink (l:List QE) (m i:Nat):Prop where
 a:∀ c,0<c→c<m→M8 c≠i→Nah l c (M8 c)
 b:∀ c,0<c→c<m→M8 c=i→0<i→Nah l c (M8 i)
theorem Rise.done {l:List QE} {m j:Nat} (h:Rise l m j) (hj:j=0∨Nah l j (M8 j)):A1O l m:=fun c h0 hc=>by
 by_cases e:c=j
 ·subst e;rcases hj with hj | hj
  ·omega
  ·exact hj
 ·exact h.a c h0 hc e
theorem Rise.step {l:List QE} {m j:Nat} (h:Rise l m j) (hm:m≤l.length) (hj:j<m) (h0:0<j) (ha:E1 (at_ l j) (at_ l (M8 j))=true):Rise (swp l (M8 j) j) m (M8 j):=by
 have hp:M8 j<j:=by unfold M8;omega
 have sw:=A3w (l:=l) (i:=M8 j) (j:=j) (by omega) (by omega)
 refine ⟨fun c hc0 hcm hne=>?_,fun c hc0 hcm hpc hp0=>?_⟩
 ·have hpc:M8 c<c:=by unfold M8;omega
  unfold Nah
  rw [sw c,sw (M8 c)]
  by_cases ecj:c=j
  ·subst ecj
   rw [if_pos rfl,if_neg (by omega),if_pos rfl]
   exact R9 ha
  ·rw [if_neg ecj,if_neg hne]
   by_cases epj:M8 c=j
   ·rw [if_pos epj];exact h.b c hc0 hcm epj h0
   ·rw [if_neg epj]
    by_cases epi:M8 c=M8 j
    ·rw [if_pos epi]
     have:=h.a c hc0 hcm ecj
     unfold Nah at this;rw [epi] at this
     exact B9k this ha
    ·rw [if_neg epi];exact h.a c hc0 hcm ecj
 ·have hpp:M8 (M8 j)<M8 j:=by unfold M8 at *;omega
  have hpj:=h.a (M8 j) hp0 (by omega) (by omega)
  unfold Nah at *
  rw [sw c,sw (M8 (M8 j)),if_neg (show ¬ M8 (M8 j)=j by omega),if_neg (show ¬ M8 (M8 j)=M8 j by omega)]
  by_cases ecj:c=j
  ·rw [if_pos ecj];exact hpj
  ·rw [if_neg ecj,if_neg (show ¬ c=M8 j by unfold M8 at *;omega)]
   have:=h.a c hc0 hcm ecj
   unfold Nah at this;rw [hpc] at this
   exact R8 this hpj
theorem Sink.done {l:List QE} {m i:Nat} (h:Sink l m i) (hc:∀ c,0<c→c<m→M8 c=i→Nah l c i):A1O l m:=fun c h0 hcm=>by
 by_cases e:M8 c=i
 ·rw [e];exact hc c h0 hcm e
 ·exact h.a c h0 hcm e
theorem Sink.step {l:List QE} {m i j:Nat} (h:Sink l m i) (hm:m≤l.length) (hj:j<m) (h0:0<j) (hp:M8 j=i) (ha:E1 (at_ l j) (at_ l i)=true)
  (hb:∀ c,0<c→c<m→M8 c=i→Nah l c j):Sink (swp l i j) m j:=by
 have hij:i<j:=by rw [←hp];unfold M8;omega
 have sw:=A3w (l:=l) (i:=i) (j:=j) (by omega) (by omega)
 refine ⟨fun c hc0 hcm hne=>?_,fun c hc0 hcm hpc hp0=>?_⟩
 ·have hpc:M8 c<c:=by unfold M8;omega
  unfold Nah
  rw [sw c,sw (M8 c),if_neg hne]
  by_cases ecj:c=j
  ·subst ecj
   rw [if_pos rfl,if_pos hp]
   exact R9 ha
  ·rw [if_neg ecj]
   by_cases epi:M8 c=i
   ·rw [if_pos epi,if_neg (by omega)]
    exact hb c hc0 hcm epi
   ·rw [if_neg epi]
    by_cases eci:c=i
    ·rw [if_pos eci]
     subst eci
     exact h.b j h0 hj hp hc0
    ·rw [if_neg eci];exact h.a c hc0 hcm epi
 ·have:j<c:=by unfold M8 at hpc;omega
  unfold Nah
  rw [hp,sw c,sw i,if_neg (show ¬ c=j by omega),if_neg (show ¬ c=i by omega),if_neg (show ¬ i=j by omega),if_pos rfl]
  have:=h.a c hc0 hcm (by omega)
  unfold Nah at this;rw [hpc] at this;exact this
theorem A1O.top {l:List QE} {m:Nat} (h:A1O l m):∀ k,k<m→Nah l k 0:=by
 intro k
 induction k using Nat.strongRecOn with
 | _ k ih =>
  intro hk
  rcases Nat.eq_zero_or_pos k with e | e
  ·subst e;exact X4 _
  ·have hp:M8 k<k:=by unfold M8;omega
   exact R8 (h k e hk) (ih (M8 k) hp (by omega))
theorem A1O.up {l:List QE} {m:Nat} (h:A1O l m) (x:QE) (hm:m=l.length):Rise (l++[x]) (m+1) m:=by
 have old:∀ k,k<m→at_ (l++[x]) k=at_ l k:=fun k hk=>by
  unfold at_;rw [List.getD_eq_getElem?_getD,List.getD_eq_getElem?_getD,List.getElem?_append_left (by omega)]
 refine ⟨fun c h0 hc hne=>?_,fun c h0 hc hpc hm0=>?_⟩
 ·have hp:M8 c<c:=by unfold M8;omega
  unfold Nah
  rw [old c (by omega),old (M8 c) (by omega)]
  exact h c h0 (by omega)
 ·unfold M8 at hpc;omega
theorem A1O.down {l:List QE} {m:Nat} (h:A1O l (m+1)) (hm:m<l.length):Sink (swp l 0 m) m 0:=by
 have sw:=A3w (l:=l) (i:=0) (j:=m) (by omega) (by omega)
 refine ⟨fun c h0 hc hne=>?_,fun c h0 hc hpc h00=>by omega⟩
 have hp:M8 c<c:=by unfold M8;omega
 unfold Nah
 rw [sw c,sw (M8 c),if_neg (by omega),if_neg (by omega),if_neg (by omega),if_neg hne]
 exact h c h0 (by omega)
end Go.Ab
namespace Go.Proofs.YtbajhapmlfbelaaGreat
open Go Go.Ab
attribute [local irreducible] upd del
def A3R (x:QE):AV:=.agg [eI x.1,eI x.2]
def X9 (st:St) (b:Nat) (l:List QE):Prop:=∃ f,st b=some ⟨293,2,l.length,f⟩∧∀ k,k<l.length→f k=A3R (at_ l k)
theorem A6h (b:Nat) (l:List QE) (n i j:Nat) (st:St) (h:X9 st b l) (hn:n≤l.length) (hi:i<n) (hj:j<n) :
  S P 370 [.own 2 b 0 n,eI i,eI j] st fun v st'=>v=.bool (E1 (at_ l i) (at_ l j))∧st'=st:=by
 obtain ⟨f,hst,hf⟩:=h
 refine D6 [] Tryz.func370 ?_
 refine ⟨[],[],[0,1,2,3,4,5,6,7,8,9,10,11,12,13,14,15,16,17,18,19,20,21,22,23,24,25,26,27,28,29,30,31,32,33,34,35,36,37],by kernel_rfl,?_⟩;conv=>whnf
 have fi:f (0+(i:Int).toNat)=A3R (at_ l i):=by rw [Nat.zero_add];exact hf i (by omega)
 have fj:f (0+(j:Int).toNat)=A3R (at_ l j):=by rw [Nat.zero_add];exact hf j (by omega)
 have li:0+(i:Int).toNat<l.length:=by omega
 have lj:0+(j:Int).toNat<l.length:=by omega
 refine I3 ?_
 refine ldV hst rfl li fi ?_;conv=>whnf
 refine I3 ?_
 refine ldV hst rfl lj fj ?_;conv=>whnf
 unfold E1
 refine B6 (fun h1=>?_) (fun h1=>?_)<;>rw [h1]
 ·conv=>whnf
  exact ⟨rfl,rfl⟩
 conv=>whnf
 refine I3 ?_
 refine ldV hst rfl li fi ?_;conv=>whnf
 refine I3 ?_
 refine ldV hst rfl lj fj ?_;conv=>whnf
 refine B6 (fun h2=>?_) (fun h2=>?_)<;>rw [h2]
 ·conv=>whnf
  refine I3 ?_
  refine ldV hst rfl li fi ?_;conv=>whnf
  refine I3 ?_
  refine ldV hst rfl lj fj ?_;conv=>whnf
  exact ⟨rfl,rfl⟩
 ·conv=>whnf
  exact ⟨rfl,rfl⟩
theorem len_S (b n:Nat) (st:St):S P 369 [.own 2 b 0 n] st fun v st'=>v=eI n∧st'=st:=by
 refine D6 [] Tryz.func369 ?_
 exact ⟨rfl,rfl⟩
theorem B1F (b:Nat) (l:List QE) (n i j:Nat) (st:St) (h:X9 st b l) (hn:n≤l.length) (hi:i<n) (hj:j<n) :
  S P 371 [.own 2 b 0 n,eI i,eI j] st fun v st'=>v=.tuple []∧X9 st' b (swp l i j)∧∀ c,c≠b→st' c=st c:=by
 obtain ⟨f,hst,hf⟩:=h
 refine D6 [] Tryz.func371 ?_
 have fi:f (0+(i:Int).toNat)=A3R (at_ l i):=by rw [Nat.zero_add];exact hf i (by omega)
 have fj:f (0+(j:Int).toNat)=A3R (at_ l j):=by rw [Nat.zero_add];exact hf j (by omega)
 have li:0+(i:Int).toNat<l.length:=by omega
 have lj:0+(j:Int).toNat<l.length:=by omega
 have ei:0+(i:Int).toNat=i:=by omega
 have ej:0+(j:Int).toNat=j:=by omega
 have hfj:M1 f (0+(i:Int).toNat) (J0 (A3R (at_ l i)) 0 (cellsOf (A3R (at_ l j)))) (0+(j:Int).toNat)=A3R (at_ l j):=by
  by_cases h:j=i
  ·subst h;rw [A9];rfl
  ·rw [O2 (by omega)];exact fj
 refine ⟨[13,15],[],[0,1,2,3,4,5,6,7,8,9,10,11,12,13,14,15],by kernel_rfl,?_⟩;conv=>whnf
 refine I3 ?_
 refine ldV hst rfl lj fj ?_;conv=>whnf
 refine I3 ?_
 refine ldV hst rfl li fi ?_;conv=>whnf
 refine I3 ?_
 refine stV hst rfl li fi (by rfl) ?_;conv=>whnf
 refine I3 ?_
 refine stV (v:=A3R (at_ l j)) (A0 ..) rfl lj hfj (by rfl) ?_;conv=>whnf
 refine ⟨rfl,⟨_,by rw [A0,A9q],fun k hk=>?_⟩,fun c hc=>by rw [A3 hc,A3 hc]⟩
 rw [A9q] at hk
 rw [A3w (by omega) (by omega)]
 by_cases h1:k=j
 ·subst h1
  rw [if_pos rfl,ej,A9];rfl
 ·rw [if_neg h1,O2 (by omega)]
  by_cases h2:k=i
  ·subst h2
   rw [if_pos rfl,ei,A9];rfl
  ·rw [if_neg h2,O2 (by omega)];exact hf k hk
def A0Y (st:St) (q:Nat) (sv:AV):Prop:=∃ f,st q=some ⟨289,1,1,f⟩∧f 0=.agg [sv]
abbrev hI (q:Nat):AV:=.iface 291 (.optr 1 q 0 0)
theorem A0Y.frame {st st':St} {q b:Nat} {sv:AV} (h:A0Y st q sv) (hqb:q≠b) (hf:∀ c,c≠b→st' c=st c):A0Y st' q sv:=by
 obtain ⟨f,h1,h2⟩:=h
 exact ⟨f,by rw [hf q hqb];exact h1,h2⟩
theorem C4m (j:Nat) (hj:j<4611686018427387904):IntKind.i64.wrap ((IntKind.i64.wrap ((j:Int) - 1)).tdiv 2)=((M8 j:Nat):Int):=by
 rw [A5 (x:=(j:Int) - 1) (by omega) (by omega)]
 unfold M8
 rcases Nat.eq_zero_or_pos j with e | e
 ·subst e;rfl
 ·rw [Int.tdiv_eq_ediv_of_nonneg (by omega),A5 (by omega) (by omega)];omega
theorem C0p (q b:Nat) (l:List QE) (j:Nat) (st:St) (hq:A0Y st q (.own 2 b 0 l.length)) (hqb:q≠b) (he:X9 st b l) (hr:Ab.Rise l l.length j) (hj:j<l.length) (hl:l.length<4611686018427387904) :
  S P 283 [hI q,eI j] st fun v st'=>v=.tuple []∧∃ l',l'.Perm l∧A1O l' l.length∧X9 st' b l'∧∀ c,c≠b→st' c=st c:=by
 refine D6 [] Tryz.func283 ?_
 refine ⟨[0,1],fun m vs st'=>∃ (j:Nat) (l':List QE),l'.Perm l∧X9 st' b l'∧(∀ c,c≠b→st' c=st c)∧Ab.Rise l' l.length j∧j<l.length∧m=j∧vs=[hI q,eI j],?_,?_⟩
 ·conv=>whnf
  exact ⟨_,j,l,List.Perm.refl _,he,fun c _=>rfl,hr,hj,rfl,rfl⟩
 ·clear hr hj he
  rintro j vs st' ⟨_,l',hp,he,hfr,hr,hj,rfl,rfl⟩
  have hlen:l'.length=l.length:=hp.length_eq
  obtain ⟨f,hqs,hq0⟩:=hq.frame hqb hfr
  have hpj:M8 j≤j:=by unfold M8;omega
  conv=>whnf
  rw [C4m j (by omega)]
  refine B6 (fun h1=>?_) (fun h1=>?_)<;>rw [h1]
  ·have:j=0:=by
    have:=of_decide_eq_true h1
    unfold M8 at this;omega
   conv=>whnf
   exact ⟨rfl,l',hp,hr.done (.inl this),he,hfr⟩
  ·have hj0:0<j:=by
    rcases Nat.eq_zero_or_pos j with e | e
    ·subst e;cases h1
    ·exact e
   conv=>whnf
   refine J5 hqs hq0 ?_
   refine I7 (A6h b l' l.length j (M8 j) _ he (by omega) (by omega) (by omega)) ?_
   refine B6 (fun h2=>?_) (fun h2=>?_)<;>rw [h2]
   ·conv=>whnf
    exact ⟨rfl,l',hp,hr.done (.inr (by have:=h2;simp only [Bool.not_eq_true'] at this;exact this)),he,hfr⟩
   ·have h2':E1 (at_ l' j) (at_ l' (M8 j))=true:=by have:=h2;simp only [Bool.not_eq_false'] at this;exact this
    have hlt:M8 j<j:=by unfold M8;omega
    conv=>whnf
    refine J5 hqs hq0 ?_
    refine call (B1F b l' l.length (M8 j) j _ he (by omega) (by omega) (by omega)) (fun v st'' hv=>?_)
    obtain ⟨rfl,he',hfr'⟩:=hv
    conv=>whnf
    refine H4 ?_
    exact ⟨M8 j,hlt,M8 j,swp l' (M8 j) j,(A6R (by omega) (by omega)).trans hp,he',fun c hc=>(hfr' c hc).trans (hfr c hc),hr.step (by omega) hj hj0 h2',by omega,rfl,rfl⟩
theorem j1W (i:Nat) (hi:i<2305843009213693952):IntKind.i64.wrap (IntKind.i64.wrap (2 * (i:Int))+1)=((2 * i+1:Nat):Int):=by
 rw [A5 (x:=2 * (i:Int)) (by omega) (by omega),A5 (by omega) (by omega)];omega
theorem B7n (q b:Nat) (l:List QE) (n m:Nat) (st:St) (hq:A0Y st q (.own 2 b 0 n)) (hqb:q≠b) (he:X9 st b l) (hs:Ab.Sink l m 0) (hmn:m≤n) (hn:n≤l.length) (hl:l.length<2305843009213693952) :
  S P 284 [hI q,eI 0,eI m] st fun v st'=>(∃ x,v=.bool x)∧∃ l',l'.Perm l∧(∀ k,m≤k→at_ l' k=at_ l k)∧A1O l' m∧X9 st' b l'∧∀ c,c≠b→st' c=st c:=by
 refine D6 [] Tryz.func284 ?_
 refine ⟨[0,1,2,7],fun t vs st'=>∃ (i:Nat) (l':List QE),l'.Perm l∧(∀ k,m≤k→at_ l' k=at_ l k)∧X9 st' b l'∧(∀ c,c≠b→st' c=st c)∧Ab.Sink l' m i∧i≤l.length∧t=l.length - i∧vs=[hI q,eI 0,eI m,eI i],?_,?_⟩
 ·conv=>whnf
  exact ⟨_,0,l,List.Perm.refl _,fun _ _=>rfl,he,fun c _=>rfl,hs,Nat.zero_le _,rfl,rfl⟩
 ·clear hs he
  rintro t vs st' ⟨i,l',hp,hk,he,hfr,hs,hi,rfl,rfl⟩
  have hlen:l'.length=l.length:=hp.length_eq
  obtain ⟨f,hqs,hq0⟩:=hq.frame hqb hfr
  have kid:∀ c,0<c→(M8 c=i↔c=2 * i+1∨c=2 * i+2):=fun c hc=>by unfold M8;omega
  conv=>whnf
  rw [j1W i (by omega)]
  refine B6 (fun h1=>?_) (fun h1=>?_)<;>rw [h1]<;>simp only [decide_eq_true_eq,decide_eq_false_iff_not] at h1
  ·conv=>whnf
   exact ⟨⟨_,rfl⟩,l',hp,hk,hs.done (fun c hc0 hcm hpc=>by have:=(kid c hc0).1 hpc;omega),he,hfr⟩
  have him:2 * i+1<m:=by omega
  conv=>whnf
  have w2:IntKind.i64.wrap (((2 * i+1:Nat):Int)+1)=((2 * i+2:Nat):Int):=by rw [A5 (by omega) (by omega)];omega
  rw [w2]
  -- behind the choice of a child
  have tail:∀ (j:Nat),0<j→j<m→M8 j=i→(∀ c,0<c→c<m→M8 c=i→Nah l' c j)→∀ (K:KK),(∀ v st'' l'',v=.tuple []→l''.Perm l→(∀ k,m≤k→at_ l'' k=at_ l k)→X9 st'' b l''→(∀ c,c≠b→st'' c=st c)→E1 (at_ l' j) (at_ l' i)=true→Ab.Sink l'' m j→K v st'')→E1 (at_ l' j) (at_ l' i)=true→T2 P 371 [.own 2 b 0 n,eI i,eI j] st' K:=by
   intro j hj0 hjm hpj hbest K hK hpr
   have hij:i<j:=by rw [←hpj];unfold M8;omega
   refine call (B1F b l' n i j _ he (by omega) (by omega) (by omega)) (fun v st'' hv=>?_)
   obtain ⟨rfl,he',hfr'⟩:=hv
   refine hK _ _ (swp l' i j) rfl ((A6R (by omega) (by omega)).trans hp) (fun k hkm=>?_) he' (fun c hc=>(hfr' c hc).trans (hfr c hc)) hpr (hs.step (by omega) hjm hj0 hpj hpr hbest)
   rw [A3w (by omega) (by omega),if_neg (by omega),if_neg (by omega)];exact hk k hkm
  refine B6 (fun h3=>?_) (fun h3=>?_)<;>rw [h3]<;>simp only [decide_eq_true_eq,decide_eq_false_iff_not] at h3
  ·conv=>whnf
   refine J5 hqs hq0 ?_
   refine I7 (A6h b l' n (2 * i+2) (2 * i+1) _ he (by omega) (by omega) (by omega)) ?_
   refine B6 (fun h4=>?_) (fun h4=>?_)<;>rw [h4]
   ·have hbest:∀ c,0<c→c<m→M8 c=i→Nah l' c (2 * i+2):=fun c hc0 hcm hpc=>by
     rcases (kid c hc0).1 hpc with e | e
     ·subst e;exact R9 h4
     ·subst e;exact X4 _
    conv=>whnf
    refine J5 hqs hq0 ?_
    refine I7 (A6h b l' n (2 * i+2) i _ he (by omega) (by omega) (by omega)) ?_
    refine B6 (fun h5=>?_) (fun h5=>?_)<;>rw [h5]
    ·conv=>whnf
     exact ⟨⟨_,rfl⟩,l',hp,hk,hs.done (fun c hc0 hcm hpc=>R8 (hbest c hc0 hcm hpc) (show Nah l' (2 * i+2) i by have:=h5;simp only [Bool.not_eq_true'] at this;exact this)),he,hfr⟩
    ·conv=>whnf
     refine J5 hqs hq0 ?_
     refine tail (2 * i+2) (by omega) (by omega) ((kid _ (by omega)).2 (.inr rfl)) hbest _ (fun v st'' l'' hv hp' hk' he' hfr' hpr hs'=>?_) (by have:=h5;simp only [Bool.not_eq_false'] at this;exact this)
     subst hv;conv=>whnf
     refine H4 ?_
     exact ⟨l.length - (2 * i+2),by omega,2 * i+2,l'',hp',hk',he',hfr',hs',by omega,rfl,rfl⟩
   ·have hbest:∀ c,0<c→c<m→M8 c=i→Nah l' c (2 * i+1):=fun c hc0 hcm hpc=>by
     rcases (kid c hc0).1 hpc with e | e
     ·subst e;exact X4 _
     ·subst e;exact h4
    conv=>whnf
    refine J5 hqs hq0 ?_
    refine I7 (A6h b l' n (2 * i+1) i _ he (by omega) (by omega) (by omega)) ?_
    refine B6 (fun h5=>?_) (fun h5=>?_)<;>rw [h5]
    ·conv=>whnf
     exact ⟨⟨_,rfl⟩,l',hp,hk,hs.done (fun c hc0 hcm hpc=>R8 (hbest c hc0 hcm hpc) (show Nah l' (2 * i+1) i by have:=h5;simp only [Bool.not_eq_true'] at this;exact this)),he,hfr⟩
    ·conv=>whnf
     refine J5 hqs hq0 ?_
     refine tail (2 * i+1) (by omega) (by omega) ((kid _ (by omega)).2 (.inl rfl)) hbest _ (fun v st'' l'' hv hp' hk' he' hfr' hpr hs'=>?_) (by have:=h5;simp only [Bool.not_eq_false'] at this;exact this)
     subst hv;conv=>whnf
     refine H4 ?_
     exact ⟨l.length - (2 * i+1),by omega,2 * i+1,l'',hp',hk',he',hfr',hs',by omega,rfl,rfl⟩
  ·have hbest:∀ c,0<c→c<m→M8 c=i→Nah l' c (2 * i+1):=fun c hc0 hcm hpc=>by
    rcases (kid c hc0).1 hpc with e | e
    ·subst e;exact X4 _
    ·omega
   conv=>whnf
   refine J5 hqs hq0 ?_
   refine I7 (A6h b l' n (2 * i+1) i _ he (by omega) (by omega) (by omega)) ?_
   refine B6 (fun h5=>?_) (fun h5=>?_)<;>rw [h5]
   ·conv=>whnf
    exact ⟨⟨_,rfl⟩,l',hp,hk,hs.done (fun c hc0 hcm hpc=>R8 (hbest c hc0 hcm hpc) (show Nah l' (2 * i+1) i by have:=h5;simp only [Bool.not_eq_true'] at this;exact this)),he,hfr⟩
   ·conv=>whnf
    refine J5 hqs hq0 ?_
    refine tail (2 * i+1) (by omega) (by omega) ((kid _ (by omega)).2 (.inl rfl)) hbest _ (fun v st'' l'' hv hp' hk' he' hfr' hpr hs'=>?_) (by have:=h5;simp only [Bool.not_eq_false'] at this;exact this)
    subst hv;conv=>whnf
    refine H4 ?_
    exact ⟨l.length - (2 * i+1),by omega,2 * i+1,l'',hp',hk',he',hfr',hs',by omega,rfl,rfl⟩
theorem X9.frame {st st':St} {b c:Nat} {l:List QE} (h:X9 st b l) (hc:c≠b) (hf:∀ a,a≠c→st' a=st a):X9 st' b l:=by
 obtain ⟨f,h1,h2⟩:=h
 exact ⟨f,by rw [hf b (fun e=>hc e.symm)];exact h1,h2⟩
theorem B8X (q b:Nat) (l:List QE) (n:Nat) (st:St) (hq:A0Y st q (.own 2 b 0 (n+1))) (hqb:q≠b) (he:X9 st b l) (hn:n<l.length) (hl:l.length<2305843009213693952) :
  S P 372 [.optr 1 q 0 0] st fun v st'=>v=.iface 293 (A3R (at_ l n))∧A0Y st' q (.own 2 b 0 n)∧∀ c,c≠q→st' c=st c:=by
 obtain ⟨fq,hqs,hq0⟩:=hq
 obtain ⟨f,hst,hf⟩:=he
 refine D6 [4] Tryz.func372 ?_
 refine J5 hqs hq0 ?_
 have w:IntKind.i64.wrap (((n+1:Nat):Int) - 1)=(n:Int):=by rw [A5 (by omega) (by omega)];omega
 rw [w]
 refine J5 hqs hq0 ?_
 refine I3 ?_
 refine ldV hst rfl (by omega) (v:=A3R (at_ l n)) (by rw [show 0+(n:Int).toNat=n by omega];exact hf n hn) ?_;conv=>whnf
 refine J5 hqs hq0 ?_
 refine ⟨rfl,⟨by omega,by omega,by omega⟩,.inl rfl,?_⟩;conv=>whnf
 refine stW hqs hq0 ?_
 refine ⟨rfl,⟨_,A0 ..,?_⟩,fun c hc=>by rw [A3 hc]⟩
 rw [A9]
 show AV.agg [AV.own 2 b _ _]=_
 congr 3<;>simp
theorem B7d (q:Nat) (sv:AV) (l:List QE) (x:QE) (st st0:St) (hq:A0Y st q sv) (h0:st0 q=none) (hsup:E7 st0 st) (hl:l.length<2305843009213)
  (hs:(l=[]∧sv=.emp)∨∃ b,q≠b∧st0 b=none∧sv=.own 2 b 0 l.length∧X9 st b l) :
  S P 373 [.optr 1 q 0 0,.iface 293 (A3R x)] st fun v st'=>v=.tuple []∧∃ b,q≠b∧st0 b=none∧A0Y st' q (.own 2 b 0 (l.length+1))∧X9 st' b (l++[x])∧E7 st0 st':=by
 obtain ⟨fq,hqs,hq0⟩:=hq
 refine D6 [] Tryz.func373 ?_
 intro c hc
 have hcq:q≠c:=fun e=>by subst e;rw [hqs] at hc;cases hc
 conv=>whnf
 refine stW (A0 ..) rfl ?_
 refine ⟨[6,8],[],[0,1,2,3,4,5,6,7,8],by kernel_rfl,?_⟩;conv=>whnf
 refine J5 (by rw [A3 hcq,A3 hcq];exact hqs) hq0 ?_
 have hc0:st0 c=none:=hsup.none hc
 rcases hs with ⟨rfl,rfl⟩ | ⟨b,hqb,hb0,rfl,f,hst,hf⟩
 ·conv=>whnf
  refine J5 (A0 ..) rfl ?_
  refine ⟨_,⟨rfl,rfl⟩,?_⟩;conv=>whnf
  refine apE rfl rfl rfl rfl (A4O ..) (by show 1 * 16≤_;omega) (fun h=>absurd h (by omega)) (fun _ b hb=>?_)
  have hbq:b≠q:=fun e=>by subst e;rw [A3 hcq,A3 hcq,hqs] at hb;cases hb
  have hbc:b≠c:=fun e=>by subst e;rw [A0] at hb;cases hb
  have hb':st b=none:=by rw [A3 hbc,A3 hbc] at hb;exact hb
  conv=>whnf
  refine stW (by rw [A3 hbq.symm,A3 hcq,A3 hcq];exact hqs) hq0 ?_
  refine ⟨rfl,b,hbq.symm,hsup.none hb',⟨_,A0 ..,by rw [A9];rfl⟩,⟨_,by rw [A3 hbq,A0];rfl,fun k hk=>?_⟩,?_⟩
  ·have:k=0:=by simpa using hk
   subst this;rfl
  ·exact (((hsup.over hc0).over hc0).over (hsup.none hb')).over h0
 ·have hbc:b≠c:=fun e=>by subst e;rw [hst] at hc;cases hc
  conv=>whnf
  refine J5 (A0 ..) rfl ?_
  refine ⟨_,⟨rfl,rfl⟩,?_⟩;conv=>whnf
  refine apO (q:=B9B) (n:=l.length) rfl rfl rfl rfl (A4O ..) (by rw [A3 hbc,A3 hbc];exact hst) rfl rfl rfl (by show (l.length+1) * 16≤_;omega) (fun h=>absurd h (by omega)) (fun _ b' hb'=>?_)
  have hb'q:b'≠q:=fun e=>by
   subst e
   rcases hb' with e | e
   ·exact hqb e
   ·rw [A3 hcq,A3 hcq,hqs] at e;cases e
  have hb'0:st0 b'=none:=by
   rcases hb' with rfl | e
   ·exact hb0
   ·by_cases hbc':b'=c
    ·subst hbc';exact hc0
    ·rw [A3 hbc',A3 hbc'] at e;exact hsup.none e
  conv=>whnf
  refine stW (by rw [A3 hb'q.symm];unfold del;rw [if_neg hqb,A3 hcq,A3 hcq];exact hqs) hq0 ?_
  refine ⟨rfl,b',hb'q.symm,hb'0,⟨_,A0 ..,by rw [A9];rfl⟩,⟨_,by rw [A3 hb'q,A0,List.length_append];rfl,fun k hk=>?_⟩,?_⟩
  ·rw [List.length_append] at hk
   simp only [List.length_cons,List.length_nil] at hk
   unfold at_
   by_cases hkl:k<l.length
   ·simp only [hkl,if_true]
    rw [hf k hkl,List.getD_eq_getElem?_getD,List.getElem?_append_left hkl,←List.getD_eq_getElem?_getD]
   ·have:k=l.length:=by omega
    subst this
    simp only [Nat.lt_irrefl,if_false,Nat.sub_self]
    rw [show (l++[x]).getD l.length default=x by simp [List.getD_eq_getElem?_getD]]
    rfl
  ·exact ((((hsup.over hc0).over hc0).del hb0).over hb'0).over h0
theorem B7o (q:Nat) (sv:AV) (l:List QE) (x:QE) (st st0:St) (hq:A0Y st q sv) (h0:st0 q=none) (hsup:E7 st0 st) (hl:l.length<2305843009213) (hh:A1O l l.length)
  (hs:(l=[]∧sv=.emp)∨∃ b,q≠b∧st0 b=none∧sv=.own 2 b 0 l.length∧X9 st b l) :
  S P 236 [hI q,.iface 293 (A3R x)] st fun v st'=>v=.tuple []∧∃ b l',q≠b∧st0 b=none∧l'.Perm (l++[x])∧A1O l' l'.length∧A0Y st' q (.own 2 b 0 l'.length)∧X9 st' b l'∧E7 st0 st':=by
 refine D6 [] Tryz.func236 ?_
 refine call (B7d q sv l x st st0 hq h0 hsup hl hs) (fun v st' hv=>?_)
 obtain ⟨rfl,b,hqb,hb0,⟨fq,hqs,hq0⟩,he,hsup'⟩:=hv
 conv=>whnf
 refine J5 hqs hq0 ?_
 refine I7 (len_S b (l.length+1) _) ?_
 have w:IntKind.i64.wrap (((l.length+1:Nat):Int) - 1)=(l.length:Int):=by rw [A5 (by omega) (by omega)];omega
 rw [w]
 have e1:(l++[x]).length=l.length+1:=by simp
 have hr:Ab.Rise (l++[x]) (l++[x]).length l.length:=by rw [e1];exact hh.up x rfl
 refine call (C0p q b (l++[x]) l.length _ (by rw [e1];exact ⟨fq,hqs,hq0⟩) hqb he hr (by omega) (by omega)) (fun v st'' hv=>?_)
 obtain ⟨rfl,l',hp,hh',he',hfr⟩:=hv
 conv=>whnf
 have el:l'.length=(l++[x]).length:=hp.length_eq
 refine ⟨rfl,b,l',hqb,hb0,hp,by rw [el];exact hh',?_,he',fun c y hc=>?_⟩
 ·rw [el,e1];exact A0Y.frame ⟨fq,hqs,hq0⟩ hqb hfr
 ·rw [hfr c (fun e=>by subst e;rw [hb0] at hc;cases hc)];exact hsup' c y hc
theorem B3V {l l':List QE} {m:Nat} (hm:m<l.length) (hp:l'.Perm l) (hk:∀ k,m≤k→at_ l' k=at_ (swp l 0 m) k):(at_ l 0::l'.take m).Perm (l.take (m+1)):=by
 have hlen:l'.length=l.length:=hp.length_eq
 have e1:l'.drop m=at_ l 0::l.drop (m+1):=by
  refine List.ext_getElem? fun i=>?_
  rw [List.getElem?_drop]
  have hi:=hk (m+i) (by omega)
  rw [A3w (by omega) hm] at hi
  rcases Nat.lt_or_ge (m+i) l.length with h | h
  ·have a1:l'[m+i]?=some (at_ l' (m+i)):=by
    unfold at_;rw [List.getD_eq_getElem?_getD,List.getElem?_eq_getElem (by omega)];rfl
   rw [a1,hi]
   cases i with
   | zero=>simp
   | succ i =>
    rw [if_neg (by omega),if_neg (by omega),List.getElem?_cons_succ,List.getElem?_drop]
    unfold at_
    rw [List.getD_eq_getElem?_getD,show m+(i+1)=m+1+i by omega,List.getElem?_eq_getElem (by omega)];rfl
  ·rw [List.getElem?_eq_none (by omega)]
   cases i with
   | zero=>omega
   | succ i=>rw [List.getElem?_cons_succ,List.getElem?_drop,List.getElem?_eq_none (by omega)]
 have h1:(l'.take m++(at_ l 0::l.drop (m+1))).Perm (l.take (m+1)++l.drop (m+1)):=by
  rw [←e1,List.take_append_drop,List.take_append_drop];exact hp
 have h2:((at_ l 0::l'.take m)++l.drop (m+1)).Perm (l.take (m+1)++l.drop (m+1)):=by
  refine List.Perm.trans ?_ h1
  exact List.perm_middle.symm
 exact (List.perm_append_right_iff _).1 h2
theorem B9d (q b:Nat) (l:List QE) (n:Nat) (st:St) (hq:A0Y st q (.own 2 b 0 (n+1))) (hqb:q≠b) (he:X9 st b l) (hh:A1O l (n+1)) (hn:n<l.length) (hl:l.length<2305843009213693952) :
  S P 237 [hI q] st fun v st'=>v=.iface 293 (A3R (at_ l 0))∧∃ l',l'.length=l.length∧(at_ l 0::l'.take n).Perm (l.take (n+1))∧A1O l' n∧A0Y st' q (.own 2 b 0 n)∧X9 st' b l'∧∀ c,c≠q→c≠b→st' c=st c:=by
 obtain ⟨fq,hqs,hq0⟩:=hq
 refine D6 [] Tryz.func237 ?_
 refine J5 hqs hq0 ?_
 refine I7 (len_S b (n+1) _) ?_
 have w:IntKind.i64.wrap (((n+1:Nat):Int) - 1)=(n:Int):=by rw [A5 (by omega) (by omega)];omega
 rw [w]
 refine J5 hqs hq0 ?_
 refine call (B1F b l (n+1) 0 n _ he (by omega) (by omega) (by omega)) (fun v st1 hv=>?_)
 obtain ⟨rfl,he1,hfr1⟩:=hv
 have hq1:A0Y st1 q (.own 2 b 0 (n+1)):=A0Y.frame ⟨fq,hqs,hq0⟩ hqb hfr1
 have hd:Ab.Sink (swp l 0 n) n 0:=hh.down hn
 have hsl:(swp l 0 n).length=l.length:=A9q l 0 n
 conv=>whnf
 refine call (B7n q b (swp l 0 n) (n+1) n _ hq1 hqb he1 hd (by omega) (by omega) (by omega)) (fun v st2 hv=>?_)
 obtain ⟨⟨y,rfl⟩,l',hp,hk,hh',he2,hfr2⟩:=hv
 have hl':l'.length=l.length:=hp.length_eq.trans hsl
 have hq2:A0Y st2 q (.own 2 b 0 (n+1)):=hq1.frame hqb hfr2
 have htop:at_ l' n=at_ l 0:=by rw [hk n (Nat.le_refl _),A3w (by omega) hn,if_pos rfl]
 conv=>whnf
 refine call (B8X q b l' n _ hq2 hqb he2 (by omega) (by omega)) (fun v st3 hv=>?_)
 obtain ⟨rfl,hq3,hfr3⟩:=hv
 rw [htop];conv=>whnf
 refine ⟨rfl,l',hl',B3V hn (hp.trans (A6R (by omega) hn)) hk,hh',hq3,he2.frame hqb hfr3,fun c h1 h2=>by rw [hfr3 c h1,hfr2 c h2,hfr1 c h2]⟩
structure V9 (st0:St) (q:Nat) (fresh:Bool) (es:List QE) (st:St):Prop where
 new:st0 q=none
 sup:E7 st0 st
 has:∃ sv,A0Y st q sv∧((es=[]∧sv=.emp)∨∃ b l n,q≠b∧st0 b=none∧sv=.own 2 b 0 n∧n≤l.length∧l.length<2305843009213∧A1O l n∧X9 st b l∧(l.take n).Perm es∧(fresh=true→n=l.length))
theorem V9.perm {st0 st:St} {q:Nat} {f:Bool} {es es':List QE} (h:V9 st0 q f es st) (hp:es.Perm es'):V9 st0 q f es' st:=by
 obtain ⟨h1,h2,sv,hq,h3⟩:=h
 refine ⟨h1,h2,sv,hq,?_⟩
 rcases h3 with ⟨rfl,hs⟩ | ⟨b,l,n,a1,a2,a3,a4,a5,a6,a7,a8,a9⟩
 ·exact .inl ⟨List.Perm.eq_nil hp.symm,hs⟩
 ·exact .inr ⟨b,l,n,a1,a2,a3,a4,a5,a6,a7,a8.trans hp,a9⟩
theorem A8V (st:St):S P 146 [] st fun v st'=>∃ q,v=.optr 1 q 0 0∧V9 st q true [] st':=by
 refine D6 [] Tryz.func146 ?_
 intro q hq;conv=>whnf
 exact ⟨q,rfl,hq,(E7.refl st).upd hq,.emp,⟨_,A0 ..,rfl⟩,.inl ⟨rfl,rfl⟩⟩
theorem A5F (st0:St) (q:Nat) (es:List QE) (r k:Int) (st:St) (h:V9 st0 q true es st) (hl:es.length<2305843009212):S P 147 [.optr 1 q 0 0,eI r,eI k] st fun v st'=>v=.tuple []∧V9 st0 q true (es++[(r,k)]) st':=by
 obtain ⟨h1,h2,sv,hq,h3⟩:=h
 refine D6 [] Tryz.func147 ?_
 have hex:∃ l:List QE,l.Perm es∧A1O l l.length∧((l=[]∧sv=.emp)∨∃ b,q≠b∧st0 b=none∧sv=.own 2 b 0 l.length∧X9 st b l):=by
  rcases h3 with ⟨rfl,hs⟩ | ⟨b,l,n,a1,a2,a3,a4,a5,a6,a7,a8,a9⟩
  ·exact ⟨[],List.Perm.refl _,fun c h0 hc=>absurd hc (by simp),.inl ⟨rfl,hs⟩⟩
  ·have e:=a9 rfl
   subst e
   rw [List.take_length] at a8
   exact ⟨l,a8,a6,.inr ⟨b,a1,a2,a3,a7⟩⟩
 obtain ⟨l,hp,hh,hs⟩:=hex
 have hll:l.length=es.length:=hp.length_eq
 refine call (B7o q sv l (r,k) st st0 hq h1 h2 (by omega) hh hs) (fun v st' hv=>?_)
 obtain ⟨rfl,b,l',hqb,hb0,hp',hh',hq',he',hsup'⟩:=hv
 have hl':l'.length=l.length+1:=by rw [hp'.length_eq];simp
 conv=>whnf
 exact ⟨rfl,h1,hsup',_,hq',.inr ⟨b,l',l'.length,hqb,hb0,rfl,Nat.le_refl _,by omega,hh',he',by rw [List.take_length];exact hp'.trans (hp.append_right _),fun _=>rfl⟩⟩
theorem A6v (st0:St) (q:Nat) (f:Bool) (es:List QE) (st:St) (h:V9 st0 q f es st):S P 148 [.optr 1 q 0 0] st fun v st'=>v=eI es.length∧st'=st:=by
 obtain ⟨h1,h2,sv,⟨fq,hqs,hq0⟩,h3⟩:=h
 refine D6 [] Tryz.func148 ?_
 rcases h3 with ⟨rfl,rfl⟩ | ⟨b,l,n,a1,a2,rfl,a4,a5,a6,a7,a8,a9⟩
 ·refine J5 hqs hq0 ?_
  exact ⟨rfl,rfl⟩
 ·refine J5 hqs hq0 ?_
  refine ⟨?_,rfl⟩
  have:es.length=n:=by rw [←a8.length_eq,List.length_take];omega
  rw [this];rfl
theorem B7H (st0:St) (q:Nat) (f:Bool) (st:St) (h:V9 st0 q f [] st):S P 149 [.optr 1 q 0 0] st fun v st'=>v=.tuple [eI 0,eI 0,.bool false]∧st'=st:=by
 obtain ⟨h1,h2,sv,⟨fq,hqs,hq0⟩,h3⟩:=h
 refine D6 [] Tryz.func149 ?_
 rcases h3 with ⟨_,rfl⟩ | ⟨b,l,n,a1,a2,rfl,a4,a5,a6,a7,a8,a9⟩
 ·refine J5 hqs hq0 ?_
  exact ⟨rfl,rfl⟩
 ·have e:n=0:=by
   have:=a8.length_eq
   rw [List.length_take,List.length_nil] at this;omega
  subst e
  refine J5 hqs hq0 ?_
  exact ⟨rfl,rfl⟩
theorem A6w (st0:St) (q:Nat) (f:Bool) (x:QE) (es:List QE) (st:St) (h:V9 st0 q f (x::es) st) (htop:∀ y∈es,E1 y x=false):S P 149 [.optr 1 q 0 0] st fun v st'=>v=.tuple [eI x.1,eI x.2,.bool true]∧V9 st0 q false es st':=by
 obtain ⟨h1,h2,sv,hq,h3⟩:=h
 rcases h3 with ⟨h,_⟩ | ⟨b,l,n,a1,a2,rfl,a4,a5,a6,a7,a8,a9⟩
 ·cases h
 have hn:n=es.length+1:=by
  have:=a8.length_eq
  rw [List.length_take,List.length_cons] at this;omega
 subst hn
 have hx:at_ l 0=x:=by
  have m0:at_ l 0∈x::es:=by
   refine a8.subset ?_
   have:(l.take (es.length+1)).getD 0 default=at_ l 0:=by
    unfold at_;rw [List.getD_eq_getElem?_getD,List.getD_eq_getElem?_getD,List.getElem?_take_of_lt (by omega)]
   rw [←this];exact A7 (by rw [List.length_take];omega)
  have hmem:x∈l.take (es.length+1):=a8.symm.subset (List.mem_cons_self ..)
  obtain ⟨k,hk,he⟩:=D3 hmem
  rw [List.length_take] at hk
  have hxk:x=at_ l k:=by
   rw [he];unfold at_;rw [List.getD_eq_getElem?_getD,List.getD_eq_getElem?_getD,List.getElem?_take_of_lt (by omega)]
  have t1:E1 x (at_ l 0)=false:=by rw [hxk];exact a6.top k (by omega)
  rcases List.mem_cons.1 m0 with e | e
  ·exact e
  ·exact B3B (htop _ e) t1
 have hq':=hq
 obtain ⟨fq,hqs,hq0⟩:=hq
 refine D6 [] Tryz.func149 ?_
 refine J5 hqs hq0 ?_
 refine call (B9d q b l es.length st hq' a1 a7 a6 (by omega) (by omega)) (fun v st' hv=>?_)
 obtain ⟨rfl,l',hl',hp',hh',hq3,he3,hfr⟩:=hv
 rw [hx] at hp' ⊢
 have hsup':E7 st0 st':=fun c y hc=>by
  rw [hfr c (fun e=>by subst e;rw [h1] at hc;cases hc) (fun e=>by subst e;rw [a2] at hc;cases hc)];exact h2 c y hc
 conv=>whnf
 intro c hc;conv=>whnf
 refine stW (A0 ..) rfl ?_
 refine ⟨[],[],[0,1,2,3,4,5,6],by kernel_rfl,?_⟩;conv=>whnf
 refine J5 (A0 ..) rfl ?_
 refine J5 (A0 ..) rfl ?_
 obtain ⟨fq',hqs',hq0'⟩:=hq3
 obtain ⟨fe,hes,hef⟩:=he3
 have hcq:q≠c:=fun e=>by subst e;rw [hqs'] at hc;cases hc
 have hcb:b≠c:=fun e=>by subst e;rw [hes] at hc;cases hc
 have hc0:st0 c=none:=hsup'.none hc
 refine ⟨rfl,h1,(hsup'.over hc0).over hc0,_,⟨fq',by rw [A3 hcq,A3 hcq];exact hqs',hq0'⟩,.inr ⟨b,l',es.length,a1,a2,rfl,by omega,by omega,hh',⟨fe,by rw [A3 hcb,A3 hcb];exact hes,hef⟩,?_,fun e=>by cases e⟩⟩
 exact (List.perm_cons x).1 (hp'.trans a8)
end Go.Proofs.YtbajhapmlfbelaaGreat
