/- Part 20 of the proof: contracts of the functions that the law reaches -/
import Derived.Test.YtbajhapmlfbelaaGreatQf19
set_option maxRecDepth 100000
set_option linter.unusedVariables false
set_option linter.unusedSimpArgs false
namespace Go.Proofs.YtbajhapmlfbelaaGreat
open Go Go.Ab
attribute [local irreducible] upd del
abbrev Big:Nat:=9223372036854775807
def Q9 (lo hi x:Int):Bool:=decide (x≥lo)&&decide (x≤hi)
def K7 {α : Type} [Inhabited α] (l:List α) (p:Nat→α→Bool):Bool:=(List.range l.length).all fun k=>p k (l.getD k default)
theorem K3 {α : Type} [Inhabited α] {l:List α} {p:Nat→α→Bool} (h:∀ k,k<l.length→p k (l.getD k default)=true):K7 l p=true:=A5O h
theorem U3 {α : Type} [Inhabited α] {l:List α} {p:Nat→α→Bool} {k:Nat} (hk:k<l.length) (h:p k (l.getD k default)=false):K7 l p=false:=A3D hk h
theorem K0 {i:Nat} {q:Nat→Prop} (h:∀ k,k<i→q k) (hi:q i):∀ k,k<i+1→q k:=fun k hk=>by
 rcases Nat.lt_succ_iff_lt_or_eq.1 hk with h' | h'
 ·exact h k h'
 ·rw [h'];exact hi
theorem B2U {α : Type} [Inhabited α] (g : α→D6) (l:List α) (st:St):B0 [.arr 1 l.length (fun k=>eS (g (l.getD k default)))] st [D2 (l.map g)] st:=by
 have e:D2 (l.map g)=.arr 1 l.length (fun k=>eS ((l.map g).getD k default)):=by unfold D2 B1;rw [List.length_map]
 rw [e]
 exact B0.arr fun i hi=>by rw [E6 g l hi]
theorem C6K (x:Int) (st:St):S P 217 [eI x] st fun v st'=>v=.bool (Q9 0 100000 x)∧st'=st:=by
 refine SyW [] Tryz.func217 ?_
 repeat' ((conv=>whnf);first  | (refine B9 (fun h=>?_) (fun h=>?_)<;>rw [h]))
 all_goals (conv=>whnf)
 all_goals (refine ⟨?_,rfl⟩;show AV.bool _=AV.bool _;congr 1)
 all_goals (simp only [Q9, *,Bool.true_and,Bool.false_and,Bool.and_true,Bool.and_false,Bool.or_true,Bool.or_false,Bool.true_or,Bool.false_or,Bool.not_true,Bool.not_false,Bool.not_not];try rfl)
theorem B3t (x:Int) (st:St):S P 258 [eI x] st fun v st'=>v=.bool (Q9 0 10000 x)∧st'=st:=by
 refine SyW [] Tryz.func258 ?_
 repeat' ((conv=>whnf);first  | (refine B9 (fun h=>?_) (fun h=>?_)<;>rw [h]))
 all_goals (conv=>whnf)
 all_goals (refine ⟨?_,rfl⟩;show AV.bool _=AV.bool _;congr 1)
 all_goals (simp only [Q9, *,Bool.true_and,Bool.false_and,Bool.and_true,Bool.and_false,Bool.or_true,Bool.or_false,Bool.true_or,Bool.false_or,Bool.not_true,Bool.not_false,Bool.not_not];try rfl)
theorem C5J (x:Int) (st:St):S P 222 [eI x] st fun v st'=>v=.bool (Q9 1 9 x)∧st'=st:=by
 refine SyW [] Tryz.func222 ?_
 repeat' ((conv=>whnf);first  | (refine B9 (fun h=>?_) (fun h=>?_)<;>rw [h]))
 all_goals (conv=>whnf)
 all_goals (refine ⟨?_,rfl⟩;show AV.bool _=AV.bool _;congr 1)
 all_goals (simp only [Q9, *,Bool.true_and,Bool.false_and,Bool.and_true,Bool.and_false,Bool.or_true,Bool.or_false,Bool.true_or,Bool.false_or,Bool.not_true,Bool.not_false,Bool.not_not];try rfl)
def lineC (x:G1):Bool:=Q9 0 100000 x.qty&&Q9 0 1000000000 x.price
theorem C5L (x:G1) (st:St):S P 275 [G4 x] st fun v st'=>v=.bool (lineC x)∧st'=st:=by
 refine SyW [1] Tryz.func275 ?_
 repeat' ((conv=>whnf);first  | (refine B9 (fun h=>?_) (fun h=>?_)<;>rw [h]))
 all_goals (conv=>whnf)
 all_goals (refine ⟨?_,rfl⟩;show AV.bool _=AV.bool _;congr 1)
 all_goals (simp only [lineC,Q9, *,Bool.true_and,Bool.false_and,Bool.and_true,Bool.and_false,Bool.or_true,Bool.or_false,Bool.true_or,Bool.false_or,Bool.not_true,Bool.not_false,Bool.not_not];try rfl)
def A8T (x:Ab.Ship):Bool:=Q9 0 1000000000 x.fee&&Q9 0 10000000000000 x.free
theorem C6h (x:Ab.Ship) (st:St):S P 177 [C4T x] st fun v st'=>v=.bool (A8T x)∧st'=st:=by
 refine SyW [1] Tryz.func177 ?_
 repeat' ((conv=>whnf);first  | (refine B9 (fun h=>?_) (fun h=>?_)<;>rw [h]))
 all_goals (conv=>whnf)
 all_goals (refine ⟨?_,rfl⟩;show AV.bool _=AV.bool _;congr 1)
 all_goals (simp only [A8T,Q9, *,Bool.true_and,Bool.false_and,Bool.and_true,Bool.and_false,Bool.or_true,Bool.or_false,Bool.true_or,Bool.false_or,Bool.not_true,Bool.not_false,Bool.not_not];try rfl)
abbrev B4i (p:B4):AV:=.agg (cellsOf (C0 p))
def A7x (p:B4):Bool:=Q9 1 10000 p.rate
def A7v (p:B4):Bool:=Q9 1 1000000000 p.amount
def A7w (p:B4):Bool:=A7x p&&(Q9 1 100 p.buy&&Q9 1 100 p.get)
def A0t (x:S3):Bool:=Z1 x.scope&&!(decide (x.count<1)||decide (x.count>100))
theorem B3b (p:B4) (st:St):S P 309 [B4i p] st fun v st'=>v=.bool (A7x p)∧st'=st:=by
 refine SyW [1] Tryz.func309 ?_
 repeat' ((conv=>whnf);first  | (refine B9 (fun h=>?_) (fun h=>?_)<;>rw [h]))
 all_goals (conv=>whnf)
 all_goals (refine ⟨?_,rfl⟩;show AV.bool _=AV.bool _;congr 1)
 all_goals (simp only [A7x,Q9, *,Bool.true_and,Bool.false_and,Bool.and_true,Bool.and_false,Bool.or_true,Bool.or_false,Bool.true_or,Bool.false_or,Bool.not_true,Bool.not_false,Bool.not_not];try rfl)
theorem B8V (p:B4) (st:St):S P 310 [B4i p] st fun v st'=>v=.bool (A7v p)∧st'=st:=by
 refine SyW [1] Tryz.func310 ?_
 repeat' ((conv=>whnf);first  | (refine B9 (fun h=>?_) (fun h=>?_)<;>rw [h]))
 all_goals (conv=>whnf)
 all_goals (refine ⟨?_,rfl⟩;show AV.bool _=AV.bool _;congr 1)
 all_goals (simp only [A7v,Q9, *,Bool.true_and,Bool.false_and,Bool.and_true,Bool.and_false,Bool.or_true,Bool.or_false,Bool.true_or,Bool.false_or,Bool.not_true,Bool.not_false,Bool.not_not];try rfl)
theorem B8X (p:B4) (st:St):S P 311 [B4i p] st fun v st'=>v=.bool (A7w p)∧st'=st:=by
 refine SyW [1] Tryz.func311 ?_
 repeat' ((conv=>whnf);first | refine C5 (B3b p st) ?_ | (refine B9 (fun h=>?_) (fun h=>?_)<;>rw [h]))
 all_goals (conv=>whnf)
 all_goals (refine ⟨?_,rfl⟩;show AV.bool _=AV.bool _;congr 1)
 all_goals (simp only [A7w,Q9, *,Bool.true_and,Bool.false_and,Bool.and_true,Bool.and_false,Bool.or_true,Bool.or_false,Bool.true_or,Bool.false_or,Bool.not_true,Bool.not_false,Bool.not_not];try rfl)
def L7 (s:D6):Bool:=s.toList==(⟨#[]⟩:D6).toList
def A1W (s:D6):Bool:=L7 s||F9 s
theorem C3W (s:D6) (st:St):S P 340 [eS s] st fun v st'=>v=.bool (A1W s)∧st'=st:=by
 refine SyW [] Tryz.func340 ?_
 repeat' ((conv=>whnf);first | refine C5 (A6E s st) ?_ | (refine B9 (fun h=>?_) (fun h=>?_)<;>rw [h]))
 all_goals (conv=>whnf)
 all_goals (refine ⟨?_,rfl⟩;show AV.bool _=AV.bool _;congr 1)
 all_goals (simp only [A1W,L7, *,Bool.true_and,Bool.false_and,Bool.and_true,Bool.and_false,Bool.or_true,Bool.or_false,Bool.true_or,Bool.false_or,Bool.not_true,Bool.not_false,Bool.not_not];try rfl)
theorem B8S (x:S3) (h1:x.scope.skus.length≤Big) (h2:x.scope.cats.length≤Big) (st:St):S P 338 [T2 x] st fun v st'=>v=.bool (!A0t x)∧st'=st:=by
 refine SyW [1] Tryz.func338 ?_
 repeat' ((conv=>whnf);first | refine C5 (B7S x.scope h1 h2 st) ?_ | (refine B9 (fun h=>?_) (fun h=>?_)<;>rw [h]))
 all_goals (conv=>whnf)
 all_goals (refine ⟨?_,rfl⟩;show AV.bool _=AV.bool _;congr 1)
 all_goals (simp only [A0t,Bool.not_eq_true',Bool.not_eq_false', *,Bool.true_and,Bool.false_and,Bool.and_true,Bool.and_false,Bool.or_true,Bool.or_false,Bool.true_or,Bool.false_or,Bool.not_true,Bool.not_false,Bool.not_not] at *;try simp only [*,Bool.true_and,Bool.false_and,Bool.not_true,Bool.not_false,Bool.true_or,Bool.false_or,Bool.not_not])
def B3R (l:List S3):Prop:=l.length≤Big∧∀ x∈l,x.scope.skus.length≤Big∧x.scope.cats.length≤Big
def A5W (p:B4):Bool:=!(decide ((p.parts.length:Int)<1)||decide ((p.parts.length:Int)>3)||decide (p.amount<0)||decide (p.amount>10000000000000))&&!(p.parts.any fun x=>!A0t x)
theorem B8W (p:B4) (hp:B3R p.parts) (st:St):S P 312 [B4i p] st fun v st'=>v=.bool (A5W p)∧st'=st:=by
 refine SyW [1] Tryz.func312 ?_
 repeat' ((conv=>whnf);first | refine C5 (B6t p.parts hp.1 _ [] (fun x=>!A0t x) st fun x hx=>B8S x (hp.2 x hx).1 (hp.2 x hx).2 st) ?_ | (refine B9 (fun h=>?_) (fun h=>?_)<;>rw [h]))
 all_goals (conv=>whnf)
 all_goals (refine ⟨?_,rfl⟩;show AV.bool _=AV.bool _;congr 1)
 all_goals (simp only [A5W, *,Bool.true_and,Bool.false_and,Bool.and_true,Bool.and_false,Bool.or_true,Bool.or_false,Bool.true_or,Bool.false_or,Bool.not_true,Bool.not_false,Bool.not_not];try rfl)
def A3m (l:List A0q) (k:Nat) (x:A0q):Bool :=
 !(decide (x.least≤(if k=0 then -1 else (l.getD (k - 1) default).least))||decide (x.least>10000000000000)||decide (x.rate<0)||decide (x.rate>10000)||decide (x.amount<0)||decide (x.amount>10000000000000)||(x.rate==0&&x.amount==0))
def X5 (l:List A0q):Bool:=!(decide ((l.length:Int)<1)||decide ((l.length:Int)>6))&&K7 l (A3m l)
theorem B7Z (p:B4) (st:St):S P 313 [B4i p] st fun v st'=>v=.bool (X5 p.tiers)∧st'=st:=by
 refine SyW [1,5] Tryz.func313 ?_
 repeat' ((conv=>whnf);first  | (refine B9 (fun h=>?_) (fun h=>?_)<;>rw [h]))
 all_goals (conv=>whnf)
 all_goals first
  | (refine ⟨?_,rfl⟩;show AV.bool _=AV.bool _;congr 1;simp only [X5, *,Bool.true_or,Bool.or_true,Bool.not_true,Bool.false_and];done)
  | skip
 generalize hl:p.tiers=l at *
 have hs:l.length≤6:=by simp only [decide_eq_true_eq,decide_eq_false_iff_not] at *;omega
 have ht:X5 l=K7 l (A3m l):=by simp only [X5, *,Bool.or_false,Bool.not_false,Bool.true_and]
 refine ⟨[3,20,21,22],fun m vs st'=>∃ i:Nat,i≤l.length∧(∀ k,k<i→A3m l k (l.getD k default)=true)∧m=l.length - i∧vs=[eI (if i=0 then -1 else (l.getD (i - 1) default).least),B1 3 Q5 l,eI l.length,eI i]∧st'=st,?_,?_⟩
 ·conv=>whnf
  exact ⟨_,0,Nat.zero_le _,fun k hk=>absurd hk (by omega),rfl,rfl,rfl⟩
 ·rintro m vs st' ⟨i,hi,hok,rfl,rfl,rfl⟩
  conv=>whnf
  cases h:decide ((i:Int)<(l.length:Int))
  ·have:=of_decide_eq_false h
   conv=>whnf
   refine ⟨?_,rfl⟩
   rw [ht,K3 fun k hk=>hok k (by omega)];rfl
  ·have hi':i<l.length:=by have:=of_decide_eq_true h;omega
   conv=>whnf
   refine ⟨rfl,⟨by omega,by omega⟩,?_⟩
   have yes:A3m l i (l.getD (i:Int).toNat default)=true→∀ k,k<i+1→A3m l k (l.getD k default)=true:=fun h=>K0 hok h
   have no:A3m l i (l.getD (i:Int).toNat default)=false→X5 l=false:=fun h=>by rw [ht];exact U3 hi' h
   unfold A3m at yes no
   repeat' ((conv=>whnf);first  | (refine B9 (fun h=>?_) (fun h=>?_)<;>rw [h]))
   all_goals (conv=>whnf)
   all_goals first
    | (refine ⟨?_,rfl⟩;rw [no (by simp only [*,Bool.true_and,Bool.and_self,Bool.or_true,Bool.true_or,Bool.not_true])];rfl)
    | (refine ⟨rfl,?_⟩
       conv=>whnf
       exact ⟨l.length - (i+1),by omega,i+1,by omega,yes (by simp only [*,Bool.false_and,Bool.and_false,Bool.or_false,Bool.not_false]),rfl,by rw [B8 (by omega),if_neg (show ¬ i+1=0 by omega)];rfl,rfl⟩)
def A6o (p:B4):Bool:=F9 p.id&&Q9 0 1000 p.prio&&A1W p.group&&A1W p.code&&Z1 p.scope&&Q9 0 10000000000000 p.least
structure A6X (s:T8):Prop where
 skus:s.skus.length≤Big
 cats:s.cats.length≤Big
theorem C4c (p:B4) (hsc:A6X p.scope) (st:St):S P 314 [B4i p] st fun v st'=>v=.bool (A6o p)∧st'=st:=by
 refine SyW [1] Tryz.func314 ?_
 repeat' ((conv=>whnf);first | refine C5 (A6E _ st) ?_ | refine C5 (C3W _ st) ?_ | refine C5 (B7S p.scope hsc.skus hsc.cats st) ?_ | (refine B9 (fun h=>?_) (fun h=>?_)<;>rw [h]))
 all_goals (conv=>whnf)
 all_goals (refine ⟨?_,rfl⟩;show AV.bool _=AV.bool _;congr 1)
 all_goals (simp only [A6o,Q9, *,Bool.true_and,Bool.false_and,Bool.and_true,Bool.and_false,Bool.or_true,Bool.or_false,Bool.true_or,Bool.false_or,Bool.not_true,Bool.not_false,Bool.not_not];try rfl)
def A8r (p:B4):Bool :=
 (((p.kind==1)||(p.kind==7)||(p.kind==3))||p.rate==0)&&((p.kind==2)||(p.kind==4)||p.amount==0)&&((p.kind==3)||(p.buy==0&&p.get==0))&&((p.kind==4)||p.parts.length==0)&&((p.kind==5)||(p.kind==6)||p.tiers.length==0)&&(((p.kind != 4)&&(p.kind != 7))||(p.scope.skus.length+p.scope.cats.length==0))&&((p.kind != 7)||!p.closes)
theorem A2V (n:Nat):((n:Int)==0)=(n==0):=by
 rw [Bool.eq_iff_iff,beq_iff_eq,beq_iff_eq];omega
set_option maxHeartbeats 4000000 in
theorem C1B (p:B4) (hk:1≤p.kind∧p.kind≤7) (hs1:p.scope.skus.length≤20) (hs2:p.scope.cats.length≤20) (st:St):S P 315 [B4i p] st fun v st'=>v=.bool (A8r p)∧st'=st:=by
 refine SyW [1] Tryz.func315 ?_
 obtain ⟨id,kind,prio,group,code,closes,scope,least,rate,amount,buy,get,parts,tiers⟩:=p
 simp only at *
 have wl:IntKind.i64.wrap ((scope.skus.length:Int)+(scope.cats.length:Int))=((scope.skus.length+scope.cats.length:Nat):Int):=by rw [A9 (by omega) (by omega)];omega
 rcases (by omega:kind=1∨kind=2∨kind=3∨kind=4∨kind=5∨kind=6∨kind=7) with rfl | rfl | rfl | rfl | rfl | rfl | rfl
 all_goals repeat' ((conv=>whnf);first  | (refine B9 (fun h=>?_) (fun h=>?_)<;>rw [h]))
 all_goals (conv=>whnf)
 all_goals (refine ⟨?_,rfl⟩;show AV.bool _=AV.bool _;congr 1)
 all_goals (try rw [wl] at *)
 all_goals (simp only [A2V] at *;simp [A8r, *])
theorem N4 {P:Program} {f:FuncId} {args:List AV} {st:St} {v:AV} (h:S P f args st fun v' st'=>v'=v∧st'=st):A1o P f args st fun v' st'=>v'=v∧st'=st:=call h fun _ _ h=>h
structure P2 (p:B4):Prop where
 scope:A6X p.scope
 parts:B3R p.parts
def A6p (p:B4):Bool :=
 if p.kind=1 then A7x p else if p.kind=2 then A7v p else if p.kind=3 then A7w p else if p.kind=4 then A5W p else if p.kind=5 then X5 p.tiers else if p.kind=6 then X5 p.tiers else A7x p
def H7 (p:B4):Bool:=decide (p.kind≥1)&&decide (p.kind<8)&&A6o p&&A8r p&&A6p p
theorem B0O {s:T8} (h:Z1 s=true):s.skus.length≤20∧s.cats.length≤20:=by
 simp only [Z1,Bool.and_eq_true,decide_eq_true_eq] at h
 exact ⟨h.1.1,h.2.1⟩
theorem B2c {p:B4} (h:A6o p=true):p.scope.skus.length≤20∧p.scope.cats.length≤20:=by
 simp only [A6o,Bool.and_eq_true] at h
 exact B0O h.1.2
theorem A9s (p:B4) (hp:P2 p) (st:St):S P 254 [C0 p] st fun v st'=>v=.bool (H7 p)∧st'=st:=by
 refine G0 [1,3,4] Tryz.func254 ?_
 refine ⟨[],[],[0,1,2,3,4,5,6,7,8,9,10,11,12,13,14,15,16,17,18,19,20,21,22,23,24],by kernel_rfl,?_⟩;conv=>whnf
 refine B9 (fun h1=>?_) (fun h1=>?_)<;>rw [h1]
 case refine_2 =>
  conv=>whnf
  refine ⟨?_,rfl⟩
  simp only [H7,h1,Bool.false_and];rfl
 conv=>whnf
 refine B9 (fun h2=>?_) (fun h2=>?_)<;>rw [h2]
 case refine_2 =>
  conv=>whnf
  refine ⟨?_,rfl⟩
  simp only [H7,h1,h2,Bool.false_and,Bool.and_false];rfl
 have hk:1≤p.kind∧p.kind≤7:=by simp only [decide_eq_true_eq] at h1 h2;omega
 conv=>whnf
 refine X9 (C4c p hp.scope st) ?_
 refine B9 (fun h3=>?_) (fun h3=>?_)
 case refine_2 =>
  rw [h3];conv=>whnf
  refine ⟨?_,rfl⟩
  simp only [H7,h3,Bool.false_and,Bool.and_false];rfl
 rw [h3]
 have hl:=B2c h3
 conv=>whnf
 refine X9 (C1B p hk hl.1 hl.2 st) ?_
 refine B9 (fun h4=>?_) (fun h4=>?_)
 case refine_2 =>
  rw [h4];conv=>whnf
  refine ⟨?_,rfl⟩
  simp only [H7,h4,Bool.false_and,Bool.and_false];rfl
 rw [h4]
 have hspec:H7 p=A6p p:=by simp only [H7,h1,h2,h3,h4,Bool.true_and]
 rw [hspec]
 suffices hcall:∀ f,f=(if p.kind=1 then 309 else if p.kind=2 then 310 else if p.kind=3 then 311 else if p.kind=4 then 312 else if p.kind=5 then 313 else if p.kind=6 then 313 else 309)→S P f [B4i p] st fun v st'=>v=.bool (A6p p)∧st'=st by
  clear hspec h1 h2 h3 h4 hl
  generalize A6p p=B at *
  clear hp
  obtain ⟨id,kind,prio,group,code,closes,scope,least,rate,amount,buy,get,parts,tiers⟩:=p
  simp only at hk hcall
  rcases (by omega:kind=1∨kind=2∨kind=3∨kind=4∨kind=5∨kind=6∨kind=7) with rfl | rfl | rfl | rfl | rfl | rfl | rfl
  all_goals (conv=>whnf)
  all_goals (refine ⟨⟨by dsimp only;omega,by dsimp only;omega⟩,?_⟩;conv=>whnf)
  all_goals (refine ⟨_,N4 (hcall _ rfl),?_⟩;conv=>whnf)
  all_goals exact ⟨rfl,rfl⟩
 rintro f rfl
 unfold A6p
 rcases (by omega:p.kind=1∨p.kind=2∨p.kind=3∨p.kind=4∨p.kind=5∨p.kind=6∨p.kind=7) with e | e | e | e | e | e | e<;>rw [e]
 ·exact B3b p st
 ·exact B8V p st
 ·exact B8X p st
 ·exact B8W p hp.parts st
 ·exact B7Z p st
 ·exact B7Z p st
 ·exact B3b p st
theorem B8Q (s:D6) (st:St):S P 181 [eS s] st fun v st'=>v=.bool (!F9 s)∧st'=st:=by
 refine G0 [] Tryz.func181 ?_
 refine I2 (A6E s st) ?_
 exact ⟨rfl,rfl⟩
def A1a (l:List D6):Bool:=decide ((l.length:Int)≤4)&&Z0 l&&!(l.any fun s=>!F9 s)
theorem C3q (l:List D6) (hl:l.length≤Big) (st:St):S P 96 [D2 l] st fun v st'=>v=.bool (A1a l)∧st'=st:=by
 refine SyW [] Tryz.func96 ?_
 repeat' ((conv=>whnf);first | refine C5 (B0J l hl st) ?_ | refine C5 (B9E l hl _ [] (fun s=>!F9 s) st fun x _=>B8Q x st) ?_ | (refine B9 (fun h=>?_) (fun h=>?_)<;>rw [h]))
 all_goals (conv=>whnf)
 all_goals (refine ⟨?_,rfl⟩;show AV.bool _=AV.bool _;congr 1)
 all_goals (simp only [A1a, *,Bool.true_and,Bool.false_and,Bool.and_true,Bool.and_false];try rfl)
theorem C2i (p x:B4) (st:St):S P 256 [C0 x,.fptr (C0 p) 0] st fun v st'=>v=.bool (x.id.toList==p.id.toList)∧st'=st:=by
 refine G0 [2] Tryz.func256 ?_
 exact ⟨rfl,rfl⟩
theorem B0Q {α : Type} [Inhabited α] (e:Nat) (enc : α→AV) (l:List α) (i n:Nat) (f:Nat→AV) (hi:i≤l.length) (hn:n=i) (hf:∀ k,k<i→f k=enc (l.getD k default)) (st:St):B0 [.arr e n f] st [B1 e enc (l.take i)] st:=by
 subst hn
 have el:(l.take n).length=n:=by rw [List.length_take];omega
 have e2:B1 e enc (l.take n)=.arr e n (fun k=>enc ((l.take n).getD k default)):=by unfold B1;rw [el]
 rw [e2]
 refine B0.arr fun k hk=>?_
 rw [hf k hk]
 congr 1
 simp [List.getD_eq_getElem?_getD,List.getElem?_take_of_lt hk]
def U2 (l:List B4) (k:Nat) (p:B4):Bool:=H7 p&&!((l.take k).any fun x=>x.id.toList==p.id.toList)
def promosC (l:List B4):Bool:=decide ((l.length:Int)≤60)&&K7 l (U2 l)
theorem C1H (l:List B4) (hl:l.length≤Big) (hf:∀ p∈l,P2 p) (st:St):S P 175 [B1 15 C0 l] st fun v st'=>v=.bool (promosC l)∧st'=st:=by
 refine G0 [4] Tryz.func175 ?_
 refine B9 (fun h=>?_) (fun h=>?_)<;>rw [h]<;>simp only [decide_eq_true_eq,decide_eq_false_iff_not] at h
 ·conv=>whnf
  refine ⟨?_,rfl⟩
  rw [show promosC l=false by unfold promosC;rw [decide_eq_false (by omega),Bool.false_and]];rfl
 have ht:promosC l=K7 l (U2 l):=by unfold promosC;rw [decide_eq_true (by omega),Bool.true_and]
 conv=>whnf
 refine ⟨[0,8,9,10],fun m vs st'=>∃ i:Nat,i≤l.length∧(∀ k,k<i→U2 l k (l.getD k default)=true)∧m=l.length - i∧vs=[B1 15 C0 l,B1 15 C0 l,eI l.length,eI i]∧st'=st,?_,?_⟩
 ·conv=>whnf
  exact ⟨_,0,Nat.zero_le _,fun k hk=>absurd hk (by omega),rfl,rfl,rfl⟩
 ·rintro m vs st' ⟨i,hi,hok,rfl,rfl,rfl⟩
  conv=>whnf
  cases h:decide ((i:Int)<(l.length:Int))
  ·have:=of_decide_eq_false h
   conv=>whnf
   refine ⟨?_,rfl⟩
   rw [ht,K3 fun k hk=>hok k (by omega)];rfl
  ·have hi':i<l.length:=by have:=of_decide_eq_true h;omega
   conv=>whnf
   refine ⟨rfl,⟨by omega,by omega⟩,?_⟩
   have yes:U2 l i (l.getD (i:Int).toNat default)=true→∀ k,k<i+1→U2 l k (l.getD k default)=true:=fun h=>K0 hok h
   have no:U2 l i (l.getD (i:Int).toNat default)=false→promosC l=false:=fun h=>by rw [ht];exact U3 hi' h
   have hmem:l.getD (i:Int).toNat default∈l:=by
    rw [Int.toNat_natCast,List.getD_eq_getElem?_getD,List.getElem?_eq_getElem hi'];exact List.getElem_mem hi'
   unfold U2 at yes no;conv=>whnf
   refine I2 (A9s (l.getD (i:Int).toNat default) (hf _ hmem) _) ?_
   refine B9 (fun h1=>?_) (fun h1=>?_)
   ·rw [h1];conv=>whnf
    refine ⟨?_,rfl⟩
    rw [no (by rw [show H7 (l.getD (i:Int).toNat default)=false by simpa using h1,Bool.false_and])];rfl
   ·rw [h1]
    have h1':H7 (l.getD (i:Int).toNat default)=true:=by simpa using h1
    conv=>whnf
    refine ⟨rfl,⟨by omega,by omega,by omega⟩,?_⟩;conv=>whnf
    refine F4 (B0.cons (B0Q 15 C0 l i _ _ hi (by omega) (fun k hk=>by simp) _) (B0.keep _ _)) (C5 (B4R (l.take i) (by rw [List.length_take];omega) _ [.fptr (C0 (l.getD (i:Int).toNat default)) 0] (fun x=>x.id.toList==(l.getD (i:Int).toNat default).id.toList) _ fun x _=>C2i _ x _) ?_);conv=>whnf
    refine B9 (fun h2=>?_) (fun h2=>?_)
    ·rw [h2];conv=>whnf
     refine ⟨?_,rfl⟩
     rw [no (by rw [h2,Bool.not_true,Bool.and_false])];rfl
    ·rw [h2];conv=>whnf
     refine G7 ?_
     exact ⟨l.length - (i+1),by omega,i+1,by omega,yes (by rw [h1',h2];rfl),rfl,by rw [B8 (by omega)],rfl⟩
def A3B (x:Ab.Item):Bool:=!(!F9 x.sku||!F9 x.cat||decide (x.price<0)||decide (x.price>1000000000))
def A1c (l:List Ab.Item):Bool:=!decide ((l.length:Int)>500)&&(K7 l (fun _ x=>A3B x)&&Z0 (l.map Ab.Item.sku))
theorem C3P (l:List Ab.Item) (st:St):S P 174 [B1 4 F1 l] st fun v st'=>v=.bool (A1c l)∧st'=st:=by
 refine A2a ?_
 refine G0 [5] Tryz.func174 ?_
 refine B9 (fun h=>?_) (fun h=>?_)<;>rw [h]
 ·conv=>whnf
  refine ⟨?_,D8.refl _⟩
  rw [show A1c l=false by unfold A1c;rw [h];rfl];rfl
 have hs:l.length≤500:=by simp only [decide_eq_false_iff_not] at h;omega
 have ht:A1c l=(K7 l (fun _ x=>A3B x)&&Z0 (l.map Ab.Item.sku)):=by unfold A1c;rw [h,Bool.not_false,Bool.true_and]
 conv=>whnf
 refine ⟨[3,9,10,11],fun m vs st'=>∃ (i:Nat) (sv:AV),i≤l.length∧(∀ k,k<i→(fun (_:Nat) (x:Ab.Item)=>A3B x) k (l.getD k default)=true)∧m=l.length - i∧vs=[sv,B1 4 F1 l,eI l.length,eI i]∧N3 9 1 (fun k=>eS (Ab.Item.sku (l.getD k default))) st i sv st',?_,?_⟩
 ·conv=>whnf
  exact ⟨_,0,.emp,Nat.zero_le _,fun k hk=>absurd hk (by omega),rfl,rfl,N3.start _ _ _ _⟩
 ·rintro m vs st' ⟨i,sv,hi,hok,rfl,rfl,hc⟩
  conv=>whnf
  cases h:decide ((i:Int)<(l.length:Int))
  ·have:=of_decide_eq_false h
   obtain rfl:i=l.length:=by omega
   conv=>whnf
   refine F4 (hc.shift.trans (B2U Ab.Item.sku l st)) (C5 (B0J (l.map Ab.Item.sku) (by rw [List.length_map];omega) st) ?_);conv=>whnf
   refine ⟨?_,D8.refl _⟩
   rw [ht,K3 fun k hk=>hok k (by omega),Bool.true_and];rfl
  ·have hi':i<l.length:=by have:=of_decide_eq_true h;omega
   conv=>whnf
   refine ⟨rfl,⟨by omega,by omega⟩,?_⟩
   have yes:(fun (_:Nat) (x:Ab.Item)=>A3B x) i (l.getD (i:Int).toNat default)=true→∀ k,k<i+1→(fun (_:Nat) (x:Ab.Item)=>A3B x) k (l.getD k default)=true:=fun h=>K0 hok h
   have no:(fun (_:Nat) (x:Ab.Item)=>A3B x) i (l.getD (i:Int).toNat default)=false→A1c l=false:=fun h=>by rw [ht,U3 hi' h,Bool.false_and]
   have hmem:l.getD (i:Int).toNat default∈l:=by
    rw [Int.toNat_natCast,List.getD_eq_getElem?_getD,List.getElem?_eq_getElem hi'];exact List.getElem_mem hi'
   have hsup:=hc.sup
   simp only [A3B] at yes no
   repeat' ((conv=>whnf);first | refine C5 (A6E _ _) ?_ | (refine B9 (fun h=>?_) (fun h=>?_)<;>rw [h]))
   all_goals (conv=>whnf)
   all_goals first
    | (refine ⟨?_,hsup⟩;rw [no (by first | (simp only [*,Bool.true_and,Bool.and_self,Bool.or_true,Bool.true_or,Bool.not_true];done) | simpa using h)];rfl)
    | skip
   refine N3.app rfl rfl rfl rfl rfl ?_ (by show (i+1) * 16≤140737488355328;omega) hc (fun sv' st'' hc'=>?_)
   ·rfl
   conv=>whnf
   refine G7 ?_
   exact ⟨l.length - (i+1),by omega,i+1,sv',by omega,yes (by first | (simp only [*,Bool.false_and,Bool.and_false,Bool.or_false,Bool.not_false];done) | simpa using h),rfl,by rw [B8 (by omega)],hc'⟩
def A3H (x:H2):Bool:=!(!F9 x.cat||!Q9 0 10000 x.rate)
def V0 (z:L3):Bool:=!(!F9 z.name||!Q9 0 10000 z.rest||!Q9 0 10000 z.ship||decide ((z.rates.length:Int)>40))&&(K7 z.rates (fun _ x=>A3H x)&&Z0 (z.rates.map H2.cat))
theorem C6z (z:L3) (st:St):S P 257 [Q6 z] st fun v st'=>v=.bool (V0 z)∧st'=st:=by
 refine A2a ?_
 refine SyW [1,5] Tryz.func257 ?_
 repeat' ((conv=>whnf);first | refine C5 (A6E _ _) ?_ | refine C5 (B3t _ _) ?_ | (refine B9 (fun h=>?_) (fun h=>?_)<;>rw [h]))
 all_goals (conv=>whnf)
 all_goals first
  | (refine ⟨?_,D8.refl _⟩
     rw [show V0 z=false by unfold V0;simp only [*,Bool.true_or,Bool.or_true,Bool.not_true,Bool.false_and]]
     rfl)
  | skip
 have hs:z.rates.length≤40:=by simp only [decide_eq_false_iff_not] at h;omega
 have ht:V0 z=(K7 z.rates (fun _ x=>A3H x)&&Z0 (z.rates.map H2.cat)):=by unfold V0;simp only [*,Bool.or_false,Bool.not_false,Bool.true_and]
 refine ⟨[3,29,30,31],fun m vs st'=>∃ (i:Nat) (sv:AV),i≤z.rates.length∧(∀ k,k<i→(fun (_:Nat) (x:H2)=>A3H x) k (z.rates.getD k default)=true)∧m=z.rates.length - i∧vs=[sv,B1 2 Y3 z.rates,eI z.rates.length,eI i]∧N3 9 1 (fun k=>eS (H2.cat (z.rates.getD k default))) st i sv st',?_,?_⟩
 ·conv=>whnf
  exact ⟨_,0,.emp,Nat.zero_le _,fun k hk=>absurd hk (by omega),rfl,rfl,N3.start _ _ _ _⟩
 ·rintro m vs st' ⟨i,sv,hi,hok,rfl,rfl,hc⟩
  conv=>whnf
  cases h:decide ((i:Int)<(z.rates.length:Int))
  ·have:=of_decide_eq_false h
   obtain rfl:i=z.rates.length:=by omega
   conv=>whnf
   refine F4 (hc.shift.trans (B2U H2.cat z.rates st)) (C5 (B0J (z.rates.map H2.cat) (by rw [List.length_map];omega) st) ?_);conv=>whnf
   refine ⟨?_,D8.refl _⟩
   rw [ht,K3 fun k hk=>hok k (by omega),Bool.true_and];rfl
  ·have hi':i<z.rates.length:=by have:=of_decide_eq_true h;omega
   conv=>whnf
   refine ⟨rfl,⟨by omega,by omega⟩,?_⟩
   have yes:(fun (_:Nat) (x:H2)=>A3H x) i (z.rates.getD (i:Int).toNat default)=true→∀ k,k<i+1→(fun (_:Nat) (x:H2)=>A3H x) k (z.rates.getD k default)=true:=fun h=>K0 hok h
   have no:(fun (_:Nat) (x:H2)=>A3H x) i (z.rates.getD (i:Int).toNat default)=false→V0 z=false:=fun h=>by rw [ht,U3 hi' h,Bool.false_and]
   have hmem:z.rates.getD (i:Int).toNat default∈z.rates:=by
    rw [Int.toNat_natCast,List.getD_eq_getElem?_getD,List.getElem?_eq_getElem hi'];exact List.getElem_mem hi'
   have hsup:=hc.sup
   simp only [A3H] at yes no
   repeat' ((conv=>whnf);first | refine C5 (A6E _ _) ?_ | refine C5 (B3t _ _) ?_ | (refine B9 (fun h=>?_) (fun h=>?_)<;>rw [h]))
   all_goals (conv=>whnf)
   all_goals first
    | (refine ⟨?_,hsup⟩;rw [no (by first | (simp only [*,Bool.true_and,Bool.and_self,Bool.or_true,Bool.true_or,Bool.not_true];done) | simpa using h)];rfl)
    | skip
   refine N3.app rfl rfl rfl rfl rfl ?_ (by show (i+1) * 16≤140737488355328;omega) hc (fun sv' st'' hc'=>?_)
   ·rfl
   conv=>whnf
   refine G7 ?_
   exact ⟨z.rates.length - (i+1),by omega,i+1,sv',by omega,yes (by first | (simp only [*,Bool.false_and,Bool.and_false,Bool.or_false,Bool.not_false];done) | simpa using h),rfl,by rw [B8 (by omega)],hc'⟩
def taxC (x:Tax):Bool:=!(decide (x.round<0)||decide (x.round>2)||decide ((x.zones.length:Int)>20))&&(K7 x.zones (fun _ z=>V0 z)&&Z0 (x.zones.map L3.name))
theorem C5e (x:Tax) (st:St):S P 176 [M8 x] st fun v st'=>v=.bool (taxC x)∧st'=st:=by
 refine A2a ?_
 refine SyW [1,5] Tryz.func176 ?_
 repeat' ((conv=>whnf);first  | (refine B9 (fun h=>?_) (fun h=>?_)<;>rw [h]))
 all_goals (conv=>whnf)
 all_goals first
  | (refine ⟨?_,D8.refl _⟩
     rw [show taxC x=false by unfold taxC;simp only [*,Bool.true_or,Bool.or_true,Bool.not_true,Bool.false_and]]
     rfl)
  | skip
 have hs:x.zones.length≤20:=by simp only [decide_eq_false_iff_not] at h;omega
 have ht:taxC x=(K7 x.zones (fun _ z=>V0 z)&&Z0 (x.zones.map L3.name)):=by unfold taxC;simp only [*,Bool.or_false,Bool.not_false,Bool.true_and]
 refine ⟨[3,21,22,23],fun m vs st'=>∃ (i:Nat) (sv:AV),i≤x.zones.length∧(∀ k,k<i→(fun (_:Nat) (z:L3)=>V0 z) k (x.zones.getD k default)=true)∧m=x.zones.length - i∧vs=[sv,B1 4 Q6 x.zones,eI x.zones.length,eI i]∧N3 9 1 (fun k=>eS (L3.name (x.zones.getD k default))) st i sv st',?_,?_⟩
 ·conv=>whnf
  exact ⟨_,0,.emp,Nat.zero_le _,fun k hk=>absurd hk (by omega),rfl,rfl,N3.start _ _ _ _⟩
 ·rintro m vs st' ⟨i,sv,hi,hok,rfl,rfl,hc⟩
  conv=>whnf
  cases h:decide ((i:Int)<(x.zones.length:Int))
  ·have:=of_decide_eq_false h
   obtain rfl:i=x.zones.length:=by omega
   conv=>whnf
   refine F4 (hc.shift.trans (B2U L3.name x.zones st)) (C5 (B0J (x.zones.map L3.name) (by rw [List.length_map];omega) st) ?_);conv=>whnf
   refine ⟨?_,D8.refl _⟩
   rw [ht,K3 fun k hk=>hok k (by omega),Bool.true_and];rfl
  ·have hi':i<x.zones.length:=by have:=of_decide_eq_true h;omega
   conv=>whnf
   refine ⟨rfl,⟨by omega,by omega⟩,?_⟩
   have yes:(fun (_:Nat) (z:L3)=>V0 z) i (x.zones.getD (i:Int).toNat default)=true→∀ k,k<i+1→(fun (_:Nat) (z:L3)=>V0 z) k (x.zones.getD k default)=true:=fun h=>K0 hok h
   have no:(fun (_:Nat) (z:L3)=>V0 z) i (x.zones.getD (i:Int).toNat default)=false→taxC x=false:=fun h=>by rw [ht,U3 hi' h,Bool.false_and]
   have hmem:x.zones.getD (i:Int).toNat default∈x.zones:=by
    rw [Int.toNat_natCast,List.getD_eq_getElem?_getD,List.getElem?_eq_getElem hi'];exact List.getElem_mem hi'
   have hsup:=hc.sup
   simp only [not_true] at yes no
   conv=>whnf
   refine I2 (C6z (x.zones.getD (i:Int).toNat default) _) ?_
   refine B9 (fun h=>?_) (fun h=>?_)<;>rw [h]
   all_goals (conv=>whnf)
   all_goals first
    | (refine ⟨?_,hsup⟩;rw [no (by first | (simp only [*,Bool.true_and,Bool.and_self,Bool.or_true,Bool.true_or,Bool.not_true];done) | simpa using h)];rfl)
    | skip
   refine N3.app rfl rfl rfl rfl rfl ?_ (by show (i+1) * 16≤140737488355328;omega) hc (fun sv' st'' hc'=>?_)
   ·rfl
   conv=>whnf
   refine G7 ?_
   exact ⟨x.zones.length - (i+1),by omega,i+1,sv',by omega,yes (by first | (simp only [*,Bool.false_and,Bool.and_false,Bool.or_false,Bool.not_false];done) | simpa using h),rfl,by rw [B8 (by omega)],hc'⟩
def A1V (l:List Int) (i:Nat) (k:Int):Bool:=!(!Q9 1 9 k||(l.take i).any fun y=>k==y)
def A0F (l:List Int):Bool:=K7 l (A1V l)
theorem B7C (l:List Int) (hl:l.length<9223372036854775807) (st:St):S P 259 [A8 l] st fun v st'=>v=.bool (A0F l)∧st'=st:=by
 refine G0 [] Tryz.func259 ?_
 refine ⟨[0,5,6,7],fun m vs st'=>∃ i:Nat,i≤l.length∧(∀ k,k<i→A1V l k (l.getD k default)=true)∧m=l.length - i∧vs=[A8 l,A8 l,eI l.length,eI i]∧st'=st,?_,?_⟩
 ·conv=>whnf
  exact ⟨_,0,Nat.zero_le _,fun k hk=>absurd hk (by omega),rfl,rfl,rfl⟩
 ·rintro m vs st' ⟨i,hi,hok,rfl,rfl,rfl⟩
  conv=>whnf
  cases h:decide ((i:Int)<(l.length:Int))
  ·have:=of_decide_eq_false h
   conv=>whnf
   refine ⟨?_,rfl⟩
   rw [show A0F l=true from K3 fun k hk=>hok k (by omega)];rfl
  ·have hi':i<l.length:=by have:=of_decide_eq_true h;omega
   conv=>whnf
   refine ⟨rfl,⟨by omega,by omega⟩,?_⟩
   have yes:A1V l i (l.getD (i:Int).toNat default)=true→∀ k,k<i+1→A1V l k (l.getD k default)=true:=fun h=>K0 hok h
   have no:A1V l i (l.getD (i:Int).toNat default)=false→A0F l=false:=fun h=>U3 hi' h
   unfold A1V at yes no;conv=>whnf
   refine I2 (C5J _ _) ?_
   refine B9 (fun h1=>?_) (fun h1=>?_)
   ·rw [h1];conv=>whnf
    refine ⟨?_,rfl⟩
    rw [no (by rw [h1];rfl)];rfl
   ·rw [h1];conv=>whnf
    refine ⟨rfl,⟨by omega,by omega,by omega⟩,?_⟩;conv=>whnf
    refine F4 (B0.cons (B0Q 1 eI l i _ _ hi (by omega) (fun k hk=>by simp) _) (B0.keep _ _)) (C5 (C1e (l.take i) (by rw [List.length_take];omega) _ _) ?_);conv=>whnf
    refine B9 (fun h2=>?_) (fun h2=>?_)
    ·rw [h2];conv=>whnf
     refine ⟨?_,rfl⟩
     rw [no (by rw [h2,Bool.or_true,Bool.not_true])];rfl
    ·rw [h2];conv=>whnf
     refine G7 ?_
     exact ⟨l.length - (i+1),by omega,i+1,by omega,yes (by rw [h1,h2];rfl),rfl,by rw [B8 (by omega)],rfl⟩
def A5X (p:A4P):Bool:=Q9 0 100000 p.window&&Q9 0 100000 p.grace&&decide (p.mode≥1)&&decide (p.mode≤3)&&Q9 0 10000 p.restock&&A0F p.order&&A0F p.credit
structure Y0 (r:H8):Prop where
 promos:r.promos.length≤Big
 fit:∀ p∈r.promos,P2 p
 order:r.policy.order.length<9223372036854775807
 credit:r.policy.credit.length<9223372036854775807
theorem C1F (p:A4P) (h1:p.order.length<9223372036854775807) (h2:p.credit.length<9223372036854775807) (st:St):S P 178 [C3z p] st fun v st'=>v=.bool (A5X p)∧st'=st:=by
 refine SyW [1] Tryz.func178 ?_
 repeat' ((conv=>whnf);first | refine C5 (C6K _ st) ?_ | refine C5 (B3t _ st) ?_ | refine C5 (B7C p.order h1 st) ?_ | refine C5 (B7C p.credit h2 st) ?_ | (refine B9 (fun h=>?_) (fun h=>?_)<;>rw [h]))
 all_goals (conv=>whnf)
 all_goals (refine ⟨?_,rfl⟩;show AV.bool _=AV.bool _;congr 1)
 all_goals (simp only [A5X, *,Bool.true_and,Bool.false_and,Bool.and_true,Bool.and_false,Bool.or_true,Bool.or_false,Bool.true_or,Bool.false_or,Bool.not_true,Bool.not_false,Bool.not_not];try rfl)
def P9 (r:H8):Bool:=A1c r.items&&promosC r.promos&&taxC r.tax&&A8T r.ship&&A5X r.policy
theorem C4q (r:H8) (hf:Y0 r) (st:St):S P 95 [G2 r] st fun v st'=>v=.bool (P9 r)∧st'=st:=by
 refine SyW [1] Tryz.func95 ?_
 repeat' ((conv=>whnf);first | refine C5 (C3P r.items st) ?_ | refine C5 (C1H r.promos hf.promos hf.fit st) ?_ | refine C5 (C5e r.tax st) ?_ | refine C5 (C6h r.ship st) ?_ | refine C5 (C1F r.policy hf.order hf.credit st) ?_ | (refine B9 (fun h=>?_) (fun h=>?_)<;>rw [h]))
 all_goals (conv=>whnf)
 all_goals (refine ⟨?_,rfl⟩;show AV.bool _=AV.bool _;congr 1)
 all_goals (simp only [P9, *,Bool.true_and,Bool.false_and,Bool.and_true,Bool.and_false,Bool.or_true,Bool.or_false,Bool.true_or,Bool.false_or,Bool.not_true,Bool.not_false,Bool.not_not];try rfl)
end Go.Proofs.YtbajhapmlfbelaaGreat
namespace Go.Proofs.YtbajhapmlfbelaaGreat
open Go Go.Ab
theorem A2o:∀ x:List UInt8,Op.bytesLess x x=false
 | []=>rfl
 | a::x=>by simp [Op.bytesLess,A2o x,UInt8.lt_irrefl]
theorem B3Y:∀ x y z:List UInt8,Op.bytesLess x y=true→Op.bytesLess y z=true→Op.bytesLess x z=true
 | _,_,[],_,h=>by simp [Op.bytesLess] at h
 | _,[],_::_,h,_=>by simp [Op.bytesLess] at h
 | [],_::_,_::_,_,_=>by simp [Op.bytesLess]
 | a::x,b::y,c::z,h1,h2=>by
  simp only [Op.bytesLess,Bool.or_eq_true,Bool.and_eq_true,decide_eq_true_eq,beq_iff_eq] at *
  rcases h1 with h1 | ⟨rfl,h1⟩
  ·rcases h2 with h2 | ⟨rfl,h2⟩
   ·exact .inl (UInt8.lt_trans h1 h2)
   ·exact .inl h1
  ·rcases h2 with h2 | ⟨rfl,h2⟩
   ·exact .inl h2
   ·exact .inr ⟨rfl,B3Y x y z h1 h2⟩
theorem C0z:∀ x y:List UInt8,Op.bytesLess x y=false→Op.bytesLess y x=false→x=y
 | [],[],_,_=>rfl
 | [],_::_,h,_=>by simp [Op.bytesLess] at h
 | _::_,[],_,h=>by simp [Op.bytesLess] at h
 | a::x,b::y,h1,h2=>by
  simp only [Op.bytesLess,Bool.or_eq_false_iff,Bool.and_eq_false_iff,decide_eq_false_iff_not,beq_eq_false_iff_ne] at *
  have hab:a=b:=by
   have n1:=UInt8.not_lt.1 h1.1
   have n2:=UInt8.not_lt.1 h2.1
   exact UInt8.le_antisymm n2 n1
  subst hab
  rw [C0z x y (h1.2.resolve_left (by simp)) (h2.2.resolve_left (by simp))]
theorem A4r (a:D6):slt a a=false:=A2o _
theorem B2o {a b c:D6} (h1:slt a b=true) (h2:slt b c=true):slt a c=true:=B3Y _ _ _ h1 h2
theorem A6c {a b:D6} (h1:slt a b=false) (h2:slt b a=false):a.toList=b.toList:=C0z _ _ h1 h2
theorem A6b {a b:D6} (h:slt a b=true):slt b a=false:=by
 cases hb:slt b a with
 | false=>rfl
 | true=>have:=B2o h hb;rw [A4r] at this;cases this
theorem A3N {a b c:D6} (h1:slt b a=false) (h2:slt c b=false):slt c a=false:=by
 cases hca:slt c a with
 | false=>rfl
 | true =>
  cases hab:slt a b with
  | true=>have:=B2o hca hab;rw [this] at h2;cases h2
  | false =>
   have e:=A6c hab h1
   have:slt c b=true:=by unfold slt at *;rw [←e];exact hca
   rw [this] at h2;cases h2
theorem B2n {a a' b b':D6} (h1:a.toList=a'.toList) (h2:b.toList=b'.toList):slt a b=slt a' b':=by unfold slt;rw [h1,h2]
def A3O (l:List D6) (k:Nat):Bool:=k==0||!slt (l.getD k default) (l.getD (k - 1) default)
theorem B5r {l:List D6} (h:∀ k,k<l.length→A3O l k=true) {a b:Nat} (hab:a≤b) (hb:b<l.length):slt (l.getD b default) (l.getD a default)=false:=by
 induction b with
 | zero=>have:a=0:=by omega
         subst this;exact A4r _
 | succ b ih =>
  rcases Nat.lt_or_ge a (b+1) with hlt | hge
  ·have h1:=ih (by omega) (by omega)
   have h2:=h (b+1) hb
   simp only [A3O,Nat.add_one_ne_zero,beq_iff_eq,Bool.or_eq_true,Bool.not_eq_true',Nat.add_sub_cancel,false_or] at h2
   exact A3N h1 h2
  ·have:a=b+1:=by omega
   subst this;exact A4r _
end Go.Proofs.YtbajhapmlfbelaaGreat
namespace Go.Proofs.YtbajhapmlfbelaaGreat
open Go Go.Ab
attribute [local irreducible] upd del
theorem C4Z (a:D6) (st:St):S P 263 [eS a] st fun v st'=>v=.bool false∧st'=st:=by
 refine G0 [] Tryz.func263 ?_
 refine ⟨?_,rfl⟩
 show AV.bool (!(a.toList==a.toList))=_
 simp
def A8b (a b:D6):Int:=if slt a b=true then -1 else if slt b a=true then 1 else 0
theorem B7y (a b:D6):(!(Op.bytesLess a.toList b.toList||a.toList==b.toList))=slt b a:=by
 cases h1:Op.bytesLess a.toList b.toList with
 | true=>rw [A6b (a:=a) (b:=b) h1];rfl
 | false =>
  cases h2:slt b a with
  | true =>
   have hne:(a.toList==b.toList)=false:=by
    rw [beq_eq_false_iff_ne];intro e
    unfold slt at h2;rw [e,A2o] at h2;cases h2
   rw [hne];rfl
  | false=>rw [A6c (a:=a) (b:=b) h1 h2];simp
theorem C4S (a b:D6) (st:St):S P 192 [eS a,eS b] st fun v st'=>v=eI (A8b a b)∧st'=st:=by
 refine G0 [] Tryz.func192 ?_
 refine I2 (C4Z _ _) ?_
 refine I2 (C4Z _ _) ?_
 refine B9 (fun h=>?_) (fun h=>?_)<;>rw [h]
 ·conv=>whnf
  exact ⟨by rw [show A8b a b = -1 from if_pos h];rfl,rfl⟩
 ·have h0:¬ slt a b=true:=by rw [show slt a b=false from h];simp
  conv=>whnf
  refine B9 (fun h2=>?_) (fun h2=>?_)
  ·have h3:slt b a=true:=by rw [←B7y a b];exact h2
   rw [h2];conv=>whnf
   exact ⟨by rw [show A8b a b=1 by unfold A8b;rw [if_neg h0,if_pos h3]];rfl,rfl⟩
  ·have h3:¬ slt b a=true:=by rw [←B7y a b,Bool.not_eq_true];exact h2
   rw [h2];conv=>whnf
   exact ⟨by rw [show A8b a b=0 by unfold A8b;rw [if_neg h0,if_neg h3]];rfl,rfl⟩
theorem B2G (a b:Ab.Item) (st:St):S P 201 [F1 a,F1 b] st fun v st'=>v=eI (A8b a.sku b.sku)∧st'=st:=by
 refine G0 [2,3] Tryz.func201 ?_
 refine I2 (C4S _ _ _) ?_
 exact ⟨rfl,rfl⟩
theorem A9L (a b:D6):decide (A8b a b<0)=slt a b:=by
 unfold A8b
 split
 ·rename_i h;rw [h];rfl
 ·rename_i h
  rw [Bool.not_eq_true] at h
  rw [h];split<;>rfl
theorem B8u (a b:D6):(A8b a b==0)=(a.toList==b.toList):=by
 unfold A8b
 split
 ·rename_i h
  have:(a.toList==b.toList)=false:=by
   rw [beq_eq_false_iff_ne];intro e
   unfold slt at h;rw [e,A2o] at h;cases h
  rw [this];rfl
 ·split
  ·rename_i h1 h
   have:(a.toList==b.toList)=false:=by
    rw [beq_eq_false_iff_ne];intro e
    unfold slt at h;rw [e,A2o] at h;cases h
   rw [this];rfl
  ·rename_i h1 h2
   rw [Bool.not_eq_true] at h1 h2
   rw [A6c h1 h2];simp
abbrev skus (l:List Ab.Item):List D6:=l.map Ab.Item.sku
theorem B3w (l:List Ab.Item) {k:Nat} (hk:k<l.length):(skus l).getD k default=(l.getD k default).sku:=E6 Ab.Item.sku l hk
def A7M (l:List D6):Bool:=(List.range l.length).all (A3O l)
theorem C2x (l:List Ab.Item) (hl:l.length≤9223372036854775807) (st:St):S P 200 [B1 4 F1 l,.fn (.func 201) [] []] st fun v st'=>v=.bool (A7M (skus l))∧st'=st:=by
 refine G0 [] Tryz.func200 ?_
 have hlen:(skus l).length=l.length:=List.length_map ..
 refine ⟨[0,1,5],fun m vs st'=>∃ i:Int,-1≤i∧i<l.length∧(∀ k:Nat,i<k→k<l.length→A3O (skus l) k=true)∧m=(i+1).toNat∧vs=[B1 4 F1 l,.fn (.func 201) [] [],eI i]∧st'=st,?_,?_⟩
 ·conv=>whnf
  have w:IntKind.i64.wrap ((l.length:Int) - 1)=(l.length:Int) - 1:=A9 (by omega) (by omega)
  exact ⟨_,(l.length:Int) - 1,by omega,by omega,fun k h1 h2=>by omega,rfl,by rw [w],rfl⟩
 ·rintro m vs st' ⟨i,h0,hi,hok,rfl,rfl,rfl⟩
  conv=>whnf
  cases h:decide (i>0)
  ·have:=of_decide_eq_false h
   conv=>whnf
   refine ⟨?_,rfl⟩
   rw [show A7M (skus l)=true from B5J fun k hk=>?_];rfl
   rw [hlen] at hk
   rcases Nat.eq_zero_or_pos k with e | e
   ·subst e;rfl
   ·exact hok k (by omega) hk
  ·have hp:=of_decide_eq_true h
   have w:IntKind.i64.wrap (i - 1)=i - 1:=A9 (by omega) (by omega)
   conv=>whnf
   refine ⟨[],[],[0,1,2,3,4,5,6,7,8,9,10,11],by kernel_rfl,?_⟩;conv=>whnf
   refine E1 ?_
   rw [w]
   refine E1 ?_
   refine X9 (B2G (l.getD i.toNat default) (l.getD (i - 1).toNat default) _) ?_
   rw [A9L]
   have e:A3O (skus l) i.toNat=!slt (l.getD i.toNat default).sku (l.getD (i - 1).toNat default).sku:=by
    unfold A3O
    rw [beq_false_of_ne (by omega),Bool.false_or,B3w l (by omega),B3w l (by omega),show i.toNat - 1=(i - 1).toNat by omega]
   refine B9 (fun h2=>?_) (fun h2=>?_)
   ·rw [h2] at e ⊢;conv=>whnf
    refine ⟨?_,rfl⟩
    rw [show A7M (skus l)=false from A3D (k:=i.toNat) (by omega) e];rfl
   ·rw [h2] at e ⊢;conv=>whnf
    refine G7 ?_
    exact ⟨i.toNat,by omega,i - 1,by omega,by omega,fun k h1 h2=>by
     rcases (by omega:k=i.toNat∨i<k) with e' | e'
     ·rw [e'];exact e
     ·exact hok k e' h2,by omega,by rw [w],rfl⟩
theorem C3D (s:D6) (x:Ab.Item) (st:St):S P 203 [F1 x,.fptr (eS s) 0] st fun v st'=>v=.bool (x.sku.toList==s.toList)∧st'=st:=by
 refine G0 [2] Tryz.func203 ?_
 exact ⟨rfl,rfl⟩
abbrev T9 (l:List Ab.Item) (s:D6):Int:=idx (fun x=>x.sku.toList==s.toList) l
theorem A7m {i j:Int} (hi:0≤i) (hij:i<j) (hj:j≤9223372036854775807):IntKind.i64.wrap ((IntKind.u64.wrap (IntKind.i64.wrap (i+j))).fdiv (2 ^ (min (1:Int).toNat IntKind.u64.bits)))=(i+j) / 2:=by
 have w:IntKind.u64.wrap (IntKind.i64.wrap (i+j))=i+j:=by
  rw [IntKind.wrap_i64]
  show (_:Int) % 18446744073709551616=_
  omega
 rw [w]
 rw [show (min (1:Int).toNat IntKind.u64.bits)=1 from rfl,Int.fdiv_eq_ediv_of_nonneg _ (by decide)]
 rw [show ((2:Int) ^ 1)=2 from rfl,A9 (x:=(i+j) / 2) (by omega) (by omega)]
theorem C2j (l:List Ab.Item) (x:Ab.Item) (hl:l.length≤9223372036854775807) (hs:A7M (skus l)=true) (st:St) :
  S P 204 [B1 4 F1 l,F1 x,.fn (.func 201) [] []] st fun v st'=>(∃ (i:Nat) (b:Bool),v=.tuple [eI i,.bool b]∧(if b=true then T9 l x.sku=i else T9 l x.sku = -1))∧st'=st:=by
 refine G0 [4] Tryz.func204 ?_
 have hlen:(skus l).length=l.length:=List.length_map ..
 have hmono:∀ a b:Nat,a≤b→b<l.length→slt (l.getD b default).sku (l.getD a default).sku=false:=fun a b hab hb=>by
  have:=B5r (l:=skus l) (fun k hk=>List.all_eq_true.1 hs k (List.mem_range.2 hk)) hab (by omega)
  rwa [B3w l hb,B3w l (by omega)] at this
 refine ⟨[0,2,4,8,9,10],fun m vs st'=>∃ i j:Nat,i≤j∧j≤l.length∧(∀ k,k<i→slt (l.getD k default).sku x.sku=true)∧(∀ k,j≤k→k<l.length→slt (l.getD k default).sku x.sku=false)∧m=j - i ∧
  vs=[B1 4 F1 l,.fn (.func 201) [] [],.fptr (F1 x) 0,eI l.length,eI i,eI j]∧st'=st,?_,?_⟩
 ·conv=>whnf
  exact ⟨_,0,l.length,Nat.zero_le _,Nat.le_refl _,fun k hk=>absurd hk (by omega),fun k h1 h2=>absurd h1 (by omega),rfl,rfl,rfl⟩
 ·rintro m vs st' ⟨i,j,hij,hj,hlo,hhi,rfl,rfl,rfl⟩
  conv=>whnf
  cases h:decide ((i:Int)<(j:Int))
  ·have:=of_decide_eq_false h
   obtain rfl:i=j:=by omega
   conv=>whnf
   refine ⟨[],[],[0,1,2,3,4,5,6,7,8,9,10,11,12,13,14,15],by kernel_rfl,?_⟩;conv=>whnf
   have hne:∀ k,k<i→((l.getD k default).sku.toList==x.sku.toList)=false:=fun k hk=>by
    rw [beq_eq_false_iff_ne];intro e
    have:=hlo k hk
    unfold slt at this;rw [e,A2o] at this;cases this
   refine B9 (fun h1=>?_) (fun h1=>?_)<;>rw [h1]<;>simp only [decide_eq_true_eq,decide_eq_false_iff_not] at h1
   ·conv=>whnf
    refine E1 ?_
    refine X9 (B2G (l.getD (i:Int).toNat default) x _) ?_
    rw [B8u]
    refine ⟨⟨i,(l.getD (i:Int).toNat default).sku.toList==x.sku.toList,rfl,?_⟩,rfl⟩
    split
    ·rename_i he
     exact A1z (by omega) hne he
    ·rename_i he
     rw [Bool.not_eq_true] at he
     have hlt:slt (l.getD i default).sku x.sku=false:=hhi i (Nat.le_refl _) (by omega)
     refine T3 fun k hk=>?_
     rcases Nat.lt_or_ge k i with hki | hki
     ·exact hne k hki
     ·rw [beq_eq_false_iff_ne];intro e
      have h3:=hmono i k hki hk
      rw [beq_eq_false_iff_ne] at he
      refine he (A6c hlt ?_)
      rw [←B2n (a:=(l.getD k default).sku) e rfl];exact h3
   ·conv=>whnf
    refine ⟨⟨i,false,rfl,?_⟩,rfl⟩
    rw [if_neg (by simp)]
    exact T3 fun k hk=>hne k (by omega)
  ·have hlt:=of_decide_eq_true h
   conv=>whnf
   rw [A7m (i:=i) (j:=j) (by omega) (by omega) (by omega)]
   have eh:((i:Int)+(j:Int)) / 2=(((i+j) / 2:Nat):Int):=by omega
   rw [eh]
   generalize hh:(i+j) / 2=mid at *
   refine ⟨[],[],[0,1,2,3,4,5,6,7],by kernel_rfl,?_⟩;conv=>whnf
   refine E1 ?_
   refine X9 (B2G (l.getD (mid:Int).toNat default) x _) ?_
   rw [A9L]
   refine B9 (fun h1=>?_) (fun h1=>?_)
   ·have h1':slt (l.getD mid default).sku x.sku=true:=h1
    rw [h1];conv=>whnf
    refine G7 ?_
    refine ⟨j - (mid+1),by omega,mid+1,j,by omega,hj,fun k hk=>?_,hhi,rfl,by rw [B8 (by omega)],rfl⟩
    cases hk2:slt (l.getD k default).sku x.sku with
    | true=>rfl
    | false =>
     have h3:=hmono k mid (by omega) (by omega)
     have:=A3N hk2 (show slt (l.getD mid default).sku (l.getD k default).sku=false from h3)
     rw [h1'] at this
     cases this
   ·have h1':slt (l.getD mid default).sku x.sku=false:=h1
    rw [h1];conv=>whnf
    refine G7 ?_
    refine ⟨mid - i,by omega,i,mid,by omega,by omega,hlo,fun k h2 h3=>?_,rfl,rfl,rfl⟩
    exact A3N (b:=(l.getD mid default).sku) (by exact h1') (hmono mid k h2 h3)
theorem B5Z (l:List Ab.Item) (s:D6) (hl:l.length≤9223372036854775807) (st:St):S P 114 [B1 4 F1 l,eS s] st fun v st'=>v=eI (T9 l s)∧st'=st:=by
 refine G0 [3,5] Tryz.func114 ?_
 refine I2 (C2x l (by omega) _) ?_
 refine B9 (fun h=>?_) (fun h=>?_)
 ·rw [h];conv=>whnf
  refine I2 (B2R l (by omega) _ [.fptr (eS s) 0] (fun x=>x.sku.toList==s.toList) _ fun x _=>C3D s x _) ?_
  exact ⟨rfl,rfl⟩
 ·rw [h]
  have hs:A7M (skus l)=true:=by simpa using h
  conv=>whnf
  refine call (C2j l ⟨s,⟨#[]⟩,0,false⟩ hl hs _) (fun v st' hv=>?_)
  obtain ⟨⟨i,b,rfl,hb⟩,rfl⟩:=hv
  conv=>whnf
  cases b with
  | true =>
   conv=>whnf
   rw [if_pos rfl] at hb
   exact ⟨by rw [show T9 l s=i from hb];rfl,rfl⟩
  | false =>
   conv=>whnf
   rw [if_neg (by simp)] at hb
   exact ⟨by rw [show T9 l s = -1 from hb];rfl,rfl⟩
def L2 (l:List G1):Int:=l.foldl (fun s x=>s+x.qty) 0
def J9 (l:List G1):Int:=l.foldl (fun s x=>s+x.qty * x.price) 0
theorem Z9 (x:G1):lineC x=true↔(0≤x.qty∧x.qty≤100000)∧(0≤x.price∧x.price≤1000000000):=by
 simp [lineC,Q9]
theorem B0e {x:G1} (h:lineC x=true):0≤x.qty * x.price∧x.qty * x.price≤100000000000000:=by
 obtain ⟨⟨a,b⟩,c,d⟩:=(Z9 x).1 h
 exact ⟨Int.mul_nonneg a c,Int.mul_le_mul b d c (by omega)⟩
theorem C6r (l:List G1) (hl:l.length≤1000) (hok:∀ x∈l,lineC x=true) (st:St):S P 276 [B1 3 G4 l] st fun v st'=>v=.tuple [eI (L2 l),eI (J9 l)]∧st'=st:=by
 refine G0 [7] Tryz.func276 ?_
 refine ⟨[4,5,8,9,10],fun m vs st'=>∃ i:Nat,i≤l.length∧(0≤L2 (l.take i)∧L2 (l.take i)≤i * 100000)∧(0≤J9 (l.take i)∧J9 (l.take i)≤i * 100000000000000)∧m=l.length - i∧vs=[eI (L2 (l.take i)),eI (J9 (l.take i)),B1 3 G4 l,eI l.length,eI i]∧st'=st,?_,?_⟩
 ·conv=>whnf
  exact ⟨_,0,Nat.zero_le _,⟨Int.le_refl _,by simp [L2]⟩,⟨Int.le_refl _,by simp [J9]⟩,rfl,rfl,rfl⟩
 ·rintro m vs st' ⟨i,hi,hu,hg,rfl,rfl,rfl⟩
  conv=>whnf
  cases h:decide ((i:Int)<(l.length:Int))
  ·have:=of_decide_eq_false h
   obtain rfl:i=l.length:=by omega
   conv=>whnf
   refine ⟨?_,rfl⟩
   rw [List.take_length];rfl
  ·have hi':i<l.length:=by have:=of_decide_eq_true h;omega
   have hmem:l.getD (i:Int).toNat default∈l:=by
    rw [Int.toNat_natCast,List.getD_eq_getElem?_getD,List.getElem?_eq_getElem hi'];exact List.getElem_mem hi'
   have hx:=hok _ hmem
   obtain ⟨⟨q0,q1⟩,_⟩:=(Z9 _).1 hx
   obtain ⟨m0,m1⟩:=B0e hx
   have eu:L2 (l.take (i+1))=L2 (l.take i)+(l.getD (i:Int).toNat default).qty:=Q3 hi' _ _
   have eg:J9 (l.take (i+1))=J9 (l.take i)+(l.getD (i:Int).toNat default).qty * (l.getD (i:Int).toNat default).price:=Q3 hi' _ _
   have w1:IntKind.i64.wrap (L2 (l.take i)+(l.getD (i:Int).toNat default).qty)=L2 (l.take (i+1)):=by rw [eu];exact A9 (by omega) (by omega)
   have w2:IntKind.i64.wrap ((l.getD (i:Int).toNat default).qty * (l.getD (i:Int).toNat default).price)=(l.getD (i:Int).toNat default).qty * (l.getD (i:Int).toNat default).price:=A9 (by omega) (by omega)
   have w3:IntKind.i64.wrap (J9 (l.take i)+(l.getD (i:Int).toNat default).qty * (l.getD (i:Int).toNat default).price)=J9 (l.take (i+1)):=by rw [eg];exact A9 (by omega) (by omega)
   conv=>whnf
   refine E1 ?_
   refine G7 ?_
   refine ⟨l.length - (i+1),by omega,i+1,by omega,?_,?_,rfl,?_,rfl⟩
   ·rw [eu];omega
   ·rw [eg];omega
   ·rw [B8 (by omega),←w1,←w3,w2]
def J4 (kn:D6→Bool) (x:G1):Bool:=!(kn x.sku&&lineC x)
def N9 (kn:D6→Bool) (l:List G1):Int :=
 if l.length>1000 then 6 else match l.find? (J4 kn) with
  | some x=>if kn x.sku=true then 2 else 7
  | none=>if (decide (L2 l>100000)||decide (J9 l>10000000000000))=true then 5 else 0
theorem A3z {α : Type} [Inhabited α] {p : α→Bool} {l:List α} {i:Nat} (hi:i<l.length) (h:∀ k,k<i→p (l.getD k default)=false) (hp:p (l.getD i default)=true):l.find? p=some (l.getD i default):=by
 induction l generalizing i with
 | nil=>simp at hi
 | cons a l ih =>
  cases i with
  | zero=>simp only [List.getD_cons_zero] at hp ⊢;rw [List.find?_cons_of_pos hp]
  | succ i =>
   have h0:=h 0 (by omega)
   simp only [List.getD_cons_zero] at h0
   rw [List.find?_cons_of_neg (by simp [h0])]
   simp only [List.getD_cons_succ] at hp ⊢
   exact ih (by simpa using hi) (fun k hk=>by simpa using h (k+1) (by omega)) hp
theorem A8f {α : Type} [Inhabited α] {p : α→Bool} {l:List α} (h:∀ k,k<l.length→p (l.getD k default)=false):l.find? p=none:=by
 rw [List.find?_eq_none]
 intro x hx
 obtain ⟨i,hi,rfl⟩:=List.getElem_of_mem hx
 have:=h i hi
 simpa [hi] using this
theorem B3 {α : Type} [Inhabited α] {l:List α} {i:Nat} (hi:i<l.length):l.getD i default∈l:=by
 rw [List.getD_eq_getElem?_getD,List.getElem?_eq_getElem hi];exact List.getElem_mem hi
theorem E3 {α : Type} [Inhabited α] {l:List α} {x : α} (h:x∈l):∃ i,i<l.length∧x=l.getD i default:=by
 obtain ⟨i,hi,rfl⟩:=List.getElem_of_mem h
 exact ⟨i,hi,by simp [hi]⟩
theorem B7p (l:List G1) (kn:D6→Bool) (g:FuncId) (cs:List AV) (st:St) (hg:∀ x∈l,S P g (eS x.sku::cs) st fun v st'=>v=.bool (kn x.sku)∧st'=st) :
  S P 195 [B1 3 G4 l,.fn (.func g) [] cs] st fun v st'=>v=eI (N9 kn l)∧st'=st:=by
 refine G0 [6] Tryz.func195 ?_
 refine B9 (fun h=>?_) (fun h=>?_)<;>rw [h]<;>simp only [decide_eq_true_eq,decide_eq_false_iff_not] at h
 ·conv=>whnf
  exact ⟨by rw [show N9 kn l=6 from if_pos (by omega)];rfl,rfl⟩
 have hs:l.length≤1000:=by omega
 have hc:N9 kn l=match l.find? (J4 kn) with
  | some x=>if kn x.sku=true then 2 else 7
  | none=>if (decide (L2 l>100000)||decide (J9 l>10000000000000))=true then 5 else 0:=if_neg (by omega)
 conv=>whnf
 refine ⟨[0,1,12,13,14],fun m vs st'=>∃ i:Nat,i≤l.length∧(∀ k,k<i→J4 kn (l.getD k default)=false)∧m=l.length - i∧vs=[B1 3 G4 l,.fn (.func g) [] cs,B1 3 G4 l,eI l.length,eI i]∧st'=st,?_,?_⟩
 ·conv=>whnf
  exact ⟨_,0,Nat.zero_le _,fun k hk=>absurd hk (by omega),rfl,rfl,rfl⟩
 ·rintro m vs st' ⟨i,hi,hok,rfl,rfl,rfl⟩
  conv=>whnf
  cases h:decide ((i:Int)<(l.length:Int))
  ·have:=of_decide_eq_false h
   rw [A8f fun k hk=>hok k (by omega)] at hc
   have hall:∀ x∈l,lineC x=true:=fun x hx=>by
    obtain ⟨k,hk,rfl⟩:=E3 hx
    have:=hok k (by omega)
    simp only [J4,Bool.not_eq_false',Bool.and_eq_true] at this
    exact this.2
   conv=>whnf
   refine I2 (C6r l hs hall _) ?_
   refine B9 (fun h1=>?_) (fun h1=>?_)
   ·rw [h1] at hc ⊢;conv=>whnf
    exact ⟨by rw [hc];rfl,rfl⟩
   ·rw [h1] at hc ⊢;conv=>whnf
    refine B9 (fun h2=>?_) (fun h2=>?_)
    ·rw [h2] at hc ⊢;conv=>whnf
     exact ⟨by rw [hc];rfl,rfl⟩
    ·rw [h2] at hc ⊢;conv=>whnf
     exact ⟨by rw [hc];rfl,rfl⟩
  ·have hi':i<l.length:=by have:=of_decide_eq_true h;omega
   have hmem:l.getD (i:Int).toNat default∈l:=B3 hi'
   conv=>whnf
   refine E1 ?_
   refine I2 (hg _ hmem) ?_
   refine B9 (fun h1=>?_) (fun h1=>?_)
   ·have hk:kn (l.getD (i:Int).toNat default).sku=false:=by simpa using h1
    rw [h1];conv=>whnf
    rw [A3z hi' hok (by show J4 kn (l.getD (i:Int).toNat default)=true;unfold J4;rw [hk];rfl)] at hc
    simp only at hc
    rw [if_neg (by rw [show kn (l.getD i default).sku=false from hk];simp)] at hc
    exact ⟨by rw [hc];rfl,rfl⟩
   ·have hk:kn (l.getD (i:Int).toNat default).sku=true:=by simpa using h1
    rw [h1];conv=>whnf
    refine I2 (C5L (l.getD (i:Int).toNat default) _) ?_
    refine B9 (fun h2=>?_) (fun h2=>?_)
    ·have hl:lineC (l.getD (i:Int).toNat default)=false:=by simpa using h2
     rw [h2];conv=>whnf
     rw [A3z hi' hok (by show J4 kn (l.getD (i:Int).toNat default)=true;unfold J4;rw [hl,Bool.and_false];rfl)] at hc
     simp only at hc
     rw [if_pos (show kn (l.getD i default).sku=true from hk)] at hc
     exact ⟨by rw [hc];rfl,rfl⟩
    ·have hl:lineC (l.getD (i:Int).toNat default)=true:=by simpa using h2
     rw [h2];conv=>whnf
     refine G7 ?_
     exact ⟨l.length - (i+1),by omega,i+1,by omega,K0 hok (by show J4 kn (l.getD (i:Int).toNat default)=false;unfold J4;rw [hk,hl];rfl),rfl,by rw [B8 (by omega)],rfl⟩
theorem C0p (s:D6) (st:St):S P 234 [eS s] st fun v st'=>v=.bool true∧st'=st:=by
 refine G0 [] Tryz.func234 ?_
 exact ⟨rfl,rfl⟩
theorem C6X (l:List G1) (st:St):S P 144 [B1 3 G4 l] st fun v st'=>v=.bool (N9 (fun _=>true) l==0)∧st'=st:=by
 refine G0 [] Tryz.func144 ?_
 refine I2 (B7p l (fun _=>true) _ [] _ fun x _=>C0p x.sku _) ?_
 exact ⟨rfl,rfl⟩
theorem C3Q (items:List Ab.Item) (hl:items.length≤9223372036854775807) (s:D6) (st:St):S P 196 [eS s,.fptr (B1 4 F1 items) 0] st fun v st'=>v=.bool (decide (T9 items s≥0))∧st'=st:=by
 refine G0 [] Tryz.func196 ?_
 refine I2 (B5Z items s hl _) ?_
 exact ⟨rfl,rfl⟩
def known (items:List Ab.Item) (s:D6):Bool:=decide (T9 items s≥0)
theorem C3d (items:List Ab.Item) (l:List G1) (hl:items.length≤9223372036854775807) (st:St):S P 102 [B1 4 F1 items,B1 3 G4 l] st fun v st'=>v=eI (N9 (known items) l)∧st'=st:=by
 refine G0 [2] Tryz.func102 ?_
 refine I2 (B7p l (known items) _ [.fptr (B1 4 F1 items) 0] _ fun x _=>C3Q items hl x.sku _) ?_
 exact ⟨rfl,rfl⟩
def C3 (items:List Ab.Item) (l:List G1):List Ab.Item:=l.map fun x=>items.getD (T9 items x.sku).toNat default
theorem A5S (items:List Ab.Item) (l:List G1) (hi:items.length≤9223372036854775807) (hl:l.length≤1000) (hk:∀ x∈l,known items x.sku=true) (st:St):S P 75 [B1 4 F1 items,B1 3 G4 l] st fun v st'=>v=B1 4 F1 (C3 items l)∧st'=st:=by
 have he:B1 4 F1 (C3 items l)=.arr 4 l.length (fun k=>F1 ((C3 items l).getD k default)):=by unfold B1;rw [show (C3 items l).length=l.length from List.length_map ..]
 rw [he]
 refine C0e (ty:=64) ?_
 refine G0 [7] Tryz.func75 ?_
 refine ⟨[0,5,9,10,11],fun m vs st'=>∃ (i:Nat) (sv:AV),i≤l.length∧m=l.length - i∧vs=[B1 4 F1 items,sv,B1 3 G4 l,eI l.length,eI i]∧N3 64 4 (fun k=>F1 ((C3 items l).getD k default)) st i sv st',?_,?_⟩
 ·conv=>whnf
  exact ⟨_,0,.emp,Nat.zero_le _,rfl,rfl,N3.start _ _ _ _⟩
 ·rintro m vs st' ⟨i,sv,hi,rfl,rfl,hc⟩
  conv=>whnf
  cases h:decide ((i:Int)<(l.length:Int))
  ·have:=of_decide_eq_false h
   obtain rfl:i=l.length:=by omega
   conv=>whnf
   exact hc
  ·have hi':i<l.length:=by have:=of_decide_eq_true h;omega
   have hmem:l.getD (i:Int).toNat default∈l:=B3 hi'
   have hkn:=hk _ hmem
   simp only [known,decide_eq_true_eq] at hkn
   have hlt:=(A9V (fun x:Ab.Item=>x.sku.toList==(l.getD (i:Int).toNat default).sku.toList) items).2
   have hlt:T9 items (l.getD (i:Int).toNat default).sku<(items.length:Int):=hlt
   conv=>whnf
   refine E1 ?_
   refine I2 (B5Z items (l.getD (i:Int).toNat default).sku (by omega) _) ?_
   refine B9 (fun h1=>?_) (fun h1=>?_)
   ·exact absurd (of_decide_eq_true h1) (by omega)
   ·rw [h1];conv=>whnf
    refine E1 ?_
    refine N3.app rfl rfl rfl rfl rfl ?_ (by show (i+1) * 48≤140737488355328;omega) hc (fun sv' st'' hc'=>?_)
    ·have e:(C3 items l).getD i default=items.getD (T9 items (l.getD i default).sku).toNat default:=E6 (fun x:G1=>items.getD (T9 items x.sku).toNat default) l hi'
     rw [e];rfl
    conv=>whnf
    refine G7 ?_
    exact ⟨l.length - (i+1),by omega,i+1,sv',by omega,rfl,by rw [B8 (by omega)],hc'⟩
end Go.Proofs.YtbajhapmlfbelaaGreat
namespace Go.Ab
abbrev QE:=Int×Int
def H1 (a b:QE):Bool:=decide (a.1>b.1)||(a.1==b.1&&decide (a.2<b.2))
theorem A8x (a b:QE):H1 a b=true↔a.1>b.1∨(a.1=b.1∧a.2<b.2):=by simp [H1]
theorem Q7 (a b:QE):H1 a b=false↔¬(a.1>b.1∨(a.1=b.1∧a.2<b.2)):=by rw [←A8x,Bool.not_eq_true]
theorem Y8 {a b:QE} (h:H1 a b=true):H1 b a=false:=by rw [A8x] at h;rw [Q7];omega
theorem A2k (a:QE):H1 a a=false:=by rw [Q7];omega
theorem A0c {a b c:QE} (h:H1 a b=false) (k:H1 b c=false):H1 a c=false:=by rw [Q7] at *;omega
theorem C5N {a b c:QE} (h:H1 a b=false) (k:H1 c b=true):H1 a c=false:=by rw [Q7] at *;rw [A8x] at k;omega
theorem A3F {a b:QE} (h:H1 a b=false) (k:H1 b a=false):a=b:=by
 rw [Q7] at *
 exact Prod.ext (by omega) (by omega)
abbrev at_ (l:List QE) (k:Nat):QE:=l.getD k default
def swp (l:List QE) (i j:Nat):List QE:=(l.set i (at_ l j)).set j (at_ l i)
theorem B3H (l:List QE) (i j:Nat):(swp l i j).length=l.length:=by simp [swp]
theorem A6P {l:List QE} {i j:Nat} (hi:i<l.length) (hj:j<l.length) (k:Nat):at_ (swp l i j) k=if k=j then at_ l i else if k=i then at_ l j else at_ l k:=by
 unfold swp at_
 simp only [List.getD_eq_getElem?_getD,List.getElem?_set,List.length_set]
 by_cases h1:k=j
 ·subst h1;simp [hj]
 ·rw [if_neg (fun e=>h1 e.symm),if_neg h1]
  by_cases h2:k=i
  ·subst h2;simp [hi]
  ·rw [if_neg (fun e=>h2 e.symm),if_neg h2]
theorem B1a {l:List QE} {i j:Nat} (hi:i<l.length) (hj:j<l.length):(swp l i j).Perm l:=by
 have e1:at_ l j=l[j]:=by simp [at_,hj]
 have e2:at_ l i=l[i]:=by simp [at_,hi]
 unfold swp
 rw [e1,e2]
 exact List.set_set_perm hi hj
def Nah (l:List QE) (c p:Nat):Prop:=H1 (at_ l c) (at_ l p)=false
def X2 (c:Nat):Nat:=(c - 1) / 2
def A4N (l:List QE) (m:Nat):Prop:=∀ c,0<c→c<m→Nah l c (X2 c)
structure Rise (l:List QE) (m j:Nat):Prop where
 a:∀ c,0<c→c<m→c≠j→Nah l c (X2 c)
 b:∀ c,0<c→c<m→X2 c=j→0<j→Nah l c (X2 j)
structure Sink (l:List QE) (m i:Nat):Prop where
 a:∀ c,0<c→c<m→X2 c≠i→Nah l c (X2 c)
 b:∀ c,0<c→c<m→X2 c=i→0<i→Nah l c (X2 i)
theorem Rise.done {l:List QE} {m j:Nat} (h:Rise l m j) (hj:j=0∨Nah l j (X2 j)):A4N l m:=fun c h0 hc=>by
 by_cases e:c=j
 ·subst e;rcases hj with hj | hj
  ·omega
  ·exact hj
 ·exact h.a c h0 hc e
theorem Rise.step {l:List QE} {m j:Nat} (h:Rise l m j) (hm:m≤l.length) (hj:j<m) (h0:0<j) (ha:H1 (at_ l j) (at_ l (X2 j))=true):Rise (swp l (X2 j) j) m (X2 j):=by
 have hp:X2 j<j:=by unfold X2;omega
 have sw:=A6P (l:=l) (i:=X2 j) (j:=j) (by omega) (by omega)
 refine ⟨fun c hc0 hcm hne=>?_,fun c hc0 hcm hpc hp0=>?_⟩
 ·have hpc:X2 c<c:=by unfold X2;omega
  unfold Nah
  rw [sw c,sw (X2 c)]
  by_cases ecj:c=j
  ·subst ecj
   rw [if_pos rfl,if_neg (by omega),if_pos rfl]
   exact Y8 ha
  ·rw [if_neg ecj,if_neg hne]
   by_cases epj:X2 c=j
   ·rw [if_pos epj];exact h.b c hc0 hcm epj h0
   ·rw [if_neg epj]
    by_cases epi:X2 c=X2 j
    ·rw [if_pos epi]
     have:=h.a c hc0 hcm ecj
     unfold Nah at this;rw [epi] at this
     exact C5N this ha
    ·rw [if_neg epi];exact h.a c hc0 hcm ecj
 ·have hpp:X2 (X2 j)<X2 j:=by unfold X2 at *;omega
  have hpj:=h.a (X2 j) hp0 (by omega) (by omega)
  unfold Nah at *
  rw [sw c,sw (X2 (X2 j)),if_neg (show ¬ X2 (X2 j)=j by omega),if_neg (show ¬ X2 (X2 j)=X2 j by omega)]
  by_cases ecj:c=j
  ·rw [if_pos ecj];exact hpj
  ·rw [if_neg ecj,if_neg (show ¬ c=X2 j by unfold X2 at *;omega)]
   have:=h.a c hc0 hcm ecj
   unfold Nah at this;rw [hpc] at this
   exact A0c this hpj
theorem Sink.done {l:List QE} {m i:Nat} (h:Sink l m i) (hc:∀ c,0<c→c<m→X2 c=i→Nah l c i):A4N l m:=fun c h0 hcm=>by
 by_cases e:X2 c=i
 ·rw [e];exact hc c h0 hcm e
 ·exact h.a c h0 hcm e
theorem Sink.step {l:List QE} {m i j:Nat} (h:Sink l m i) (hm:m≤l.length) (hj:j<m) (h0:0<j) (hp:X2 j=i) (ha:H1 (at_ l j) (at_ l i)=true)
  (hb:∀ c,0<c→c<m→X2 c=i→Nah l c j):Sink (swp l i j) m j:=by
 have hij:i<j:=by rw [←hp];unfold X2;omega
 have sw:=A6P (l:=l) (i:=i) (j:=j) (by omega) (by omega)
 refine ⟨fun c hc0 hcm hne=>?_,fun c hc0 hcm hpc hp0=>?_⟩
 ·have hpc:X2 c<c:=by unfold X2;omega
  unfold Nah
  rw [sw c,sw (X2 c),if_neg hne]
  by_cases ecj:c=j
  ·subst ecj
   rw [if_pos rfl,if_pos hp]
   exact Y8 ha
  ·rw [if_neg ecj]
   by_cases epi:X2 c=i
   ·rw [if_pos epi,if_neg (by omega)]
    exact hb c hc0 hcm epi
   ·rw [if_neg epi]
    by_cases eci:c=i
    ·rw [if_pos eci]
     subst eci
     exact h.b j h0 hj hp hc0
    ·rw [if_neg eci];exact h.a c hc0 hcm epi
 ·have:j<c:=by unfold X2 at hpc;omega
  unfold Nah
  rw [hp,sw c,sw i,if_neg (show ¬ c=j by omega),if_neg (show ¬ c=i by omega),if_neg (show ¬ i=j by omega),if_pos rfl]
  have:=h.a c hc0 hcm (by omega)
  unfold Nah at this;rw [hpc] at this;exact this
theorem A4N.top {l:List QE} {m:Nat} (h:A4N l m):∀ k,k<m→Nah l k 0:=by
 intro k
 induction k using Nat.strongRecOn with
 | _ k ih =>
  intro hk
  rcases Nat.eq_zero_or_pos k with e | e
  ·subst e;exact A2k _
  ·have hp:X2 k<k:=by unfold X2;omega
   exact A0c (h k e hk) (ih (X2 k) hp (by omega))
theorem A4N.up {l:List QE} {m:Nat} (h:A4N l m) (x:QE) (hm:m=l.length):Rise (l++[x]) (m+1) m:=by
 have old:∀ k,k<m→at_ (l++[x]) k=at_ l k:=fun k hk=>by
  unfold at_;rw [List.getD_eq_getElem?_getD,List.getD_eq_getElem?_getD,List.getElem?_append_left (by omega)]
 refine ⟨fun c h0 hc hne=>?_,fun c h0 hc hpc hm0=>?_⟩
 ·have hp:X2 c<c:=by unfold X2;omega
  unfold Nah
  rw [old c (by omega),old (X2 c) (by omega)]
  exact h c h0 (by omega)
 ·unfold X2 at hpc;omega
theorem A4N.down {l:List QE} {m:Nat} (h:A4N l (m+1)) (hm:m<l.length):Sink (swp l 0 m) m 0:=by
 have sw:=A6P (l:=l) (i:=0) (j:=m) (by omega) (by omega)
 refine ⟨fun c h0 hc hne=>?_,fun c h0 hc hpc h00=>by omega⟩
 have hp:X2 c<c:=by unfold X2;omega
 unfold Nah
 rw [sw c,sw (X2 c),if_neg (by omega),if_neg (by omega),if_neg (by omega),if_neg hne]
 exact h c h0 (by omega)
end Go.Ab
namespace Go.Proofs.YtbajhapmlfbelaaGreat
open Go Go.Ab
attribute [local irreducible] upd del
def A4X (x:QE):AV:=.agg [eI x.1,eI x.2]
def A2s (st:St) (b:Nat) (l:List QE):Prop:=∃ f,st b=some ⟨293,2,l.length,f⟩∧∀ k,k<l.length→f k=A4X (at_ l k)
theorem B0b (b:Nat) (l:List QE) (n i j:Nat) (st:St) (h:A2s st b l) (hn:n≤l.length) (hi:i<n) (hj:j<n) :
  S P 370 [.own 2 b 0 n,eI i,eI j] st fun v st'=>v=.bool (H1 (at_ l i) (at_ l j))∧st'=st:=by
 obtain ⟨f,hst,hf⟩:=h
 refine G0 [] Tryz.func370 ?_
 refine ⟨[],[],[0,1,2,3,4,5,6,7,8,9,10,11,12,13,14,15,16,17,18,19,20,21,22,23,24,25,26,27,28,29,30,31,32,33,34,35,36,37],by kernel_rfl,?_⟩;conv=>whnf
 have fi:f (0+(i:Int).toNat)=A4X (at_ l i):=by rw [Nat.zero_add];exact hf i (by omega)
 have fj:f (0+(j:Int).toNat)=A4X (at_ l j):=by rw [Nat.zero_add];exact hf j (by omega)
 have li:0+(i:Int).toNat<l.length:=by omega
 have lj:0+(j:Int).toNat<l.length:=by omega
 refine E1 ?_
 refine ldV hst rfl li fi ?_;conv=>whnf
 refine E1 ?_
 refine ldV hst rfl lj fj ?_;conv=>whnf
 unfold H1
 refine B9 (fun h1=>?_) (fun h1=>?_)<;>rw [h1]
 ·conv=>whnf
  exact ⟨rfl,rfl⟩
 conv=>whnf
 refine E1 ?_
 refine ldV hst rfl li fi ?_;conv=>whnf
 refine E1 ?_
 refine ldV hst rfl lj fj ?_;conv=>whnf
 refine B9 (fun h2=>?_) (fun h2=>?_)<;>rw [h2]
 ·conv=>whnf
  refine E1 ?_
  refine ldV hst rfl li fi ?_;conv=>whnf
  refine E1 ?_
  refine ldV hst rfl lj fj ?_;conv=>whnf
  exact ⟨rfl,rfl⟩
 ·conv=>whnf
  exact ⟨rfl,rfl⟩
theorem len_S (b n:Nat) (st:St):S P 369 [.own 2 b 0 n] st fun v st'=>v=eI n∧st'=st:=by
 refine G0 [] Tryz.func369 ?_
 exact ⟨rfl,rfl⟩
theorem B6U (b:Nat) (l:List QE) (n i j:Nat) (st:St) (h:A2s st b l) (hn:n≤l.length) (hi:i<n) (hj:j<n) :
  S P 371 [.own 2 b 0 n,eI i,eI j] st fun v st'=>v=.tuple []∧A2s st' b (swp l i j)∧∀ c,c≠b→st' c=st c:=by
 obtain ⟨f,hst,hf⟩:=h
 refine G0 [] Tryz.func371 ?_
 have fi:f (0+(i:Int).toNat)=A4X (at_ l i):=by rw [Nat.zero_add];exact hf i (by omega)
 have fj:f (0+(j:Int).toNat)=A4X (at_ l j):=by rw [Nat.zero_add];exact hf j (by omega)
 have li:0+(i:Int).toNat<l.length:=by omega
 have lj:0+(j:Int).toNat<l.length:=by omega
 have ei:0+(i:Int).toNat=i:=by omega
 have ej:0+(j:Int).toNat=j:=by omega
 have hfj:C9 f (0+(i:Int).toNat) (O5 (A4X (at_ l i)) 0 (cellsOf (A4X (at_ l j)))) (0+(j:Int).toNat)=A4X (at_ l j):=by
  by_cases h:j=i
  ·subst h;rw [A5];rfl
  ·rw [H3 (by omega)];exact fj
 refine ⟨[13,15],[],[0,1,2,3,4,5,6,7,8,9,10,11,12,13,14,15],by kernel_rfl,?_⟩;conv=>whnf
 refine E1 ?_
 refine ldV hst rfl lj fj ?_;conv=>whnf
 refine E1 ?_
 refine ldV hst rfl li fi ?_;conv=>whnf
 refine E1 ?_
 refine stV hst rfl li fi (by rfl) ?_;conv=>whnf
 refine E1 ?_
 refine stV (v:=A4X (at_ l j)) (A0 ..) rfl lj hfj (by rfl) ?_;conv=>whnf
 refine ⟨rfl,⟨_,by rw [A0,B3H],fun k hk=>?_⟩,fun c hc=>by rw [A6 hc,A6 hc]⟩
 rw [B3H] at hk
 rw [A6P (by omega) (by omega)]
 by_cases h1:k=j
 ·subst h1
  rw [if_pos rfl,ej,A5];rfl
 ·rw [if_neg h1,H3 (by omega)]
  by_cases h2:k=i
  ·subst h2
   rw [if_pos rfl,ei,A5];rfl
  ·rw [if_neg h2,H3 (by omega)];exact hf k hk
def A3T (st:St) (q:Nat) (sv:AV):Prop:=∃ f,st q=some ⟨289,1,1,f⟩∧f 0=.agg [sv]
abbrev hI (q:Nat):AV:=.iface 291 (.optr 1 q 0 0)
theorem A3T.frame {st st':St} {q b:Nat} {sv:AV} (h:A3T st q sv) (hqb:q≠b) (hf:∀ c,c≠b→st' c=st c):A3T st' q sv:=by
 obtain ⟨f,h1,h2⟩:=h
 exact ⟨f,by rw [hf q hqb];exact h1,h2⟩
theorem D0g (j:Nat) (hj:j<4611686018427387904):IntKind.i64.wrap ((IntKind.i64.wrap ((j:Int) - 1)).tdiv 2)=((X2 j:Nat):Int):=by
 rw [A9 (x:=(j:Int) - 1) (by omega) (by omega)]
 unfold X2
 rcases Nat.eq_zero_or_pos j with e | e
 ·subst e;rfl
 ·rw [Int.tdiv_eq_ediv_of_nonneg (by omega),A9 (by omega) (by omega)];omega
theorem C6S (q b:Nat) (l:List QE) (j:Nat) (st:St) (hq:A3T st q (.own 2 b 0 l.length)) (hqb:q≠b) (he:A2s st b l) (hr:Ab.Rise l l.length j) (hj:j<l.length) (hl:l.length<4611686018427387904) :
  S P 283 [hI q,eI j] st fun v st'=>v=.tuple []∧∃ l',l'.Perm l∧A4N l' l.length∧A2s st' b l'∧∀ c,c≠b→st' c=st c:=by
 refine G0 [] Tryz.func283 ?_
 refine ⟨[0,1],fun m vs st'=>∃ (j:Nat) (l':List QE),l'.Perm l∧A2s st' b l'∧(∀ c,c≠b→st' c=st c)∧Ab.Rise l' l.length j∧j<l.length∧m=j∧vs=[hI q,eI j],?_,?_⟩
 ·conv=>whnf
  exact ⟨_,j,l,List.Perm.refl _,he,fun c _=>rfl,hr,hj,rfl,rfl⟩
 ·clear hr hj he
  rintro j vs st' ⟨_,l',hp,he,hfr,hr,hj,rfl,rfl⟩
  have hlen:l'.length=l.length:=hp.length_eq
  obtain ⟨f,hqs,hq0⟩:=hq.frame hqb hfr
  have hpj:X2 j≤j:=by unfold X2;omega
  conv=>whnf
  rw [D0g j (by omega)]
  refine B9 (fun h1=>?_) (fun h1=>?_)<;>rw [h1]
  ·have:j=0:=by
    have:=of_decide_eq_true h1
    unfold X2 at this;omega
   conv=>whnf
   exact ⟨rfl,l',hp,hr.done (.inl this),he,hfr⟩
  ·have hj0:0<j:=by
    rcases Nat.eq_zero_or_pos j with e | e
    ·subst e;cases h1
    ·exact e
   conv=>whnf
   refine F2 hqs hq0 ?_
   refine I2 (B0b b l' l.length j (X2 j) _ he (by omega) (by omega) (by omega)) ?_
   refine B9 (fun h2=>?_) (fun h2=>?_)<;>rw [h2]
   ·conv=>whnf
    exact ⟨rfl,l',hp,hr.done (.inr (by have:=h2;simp only [Bool.not_eq_true'] at this;exact this)),he,hfr⟩
   ·have h2':H1 (at_ l' j) (at_ l' (X2 j))=true:=by have:=h2;simp only [Bool.not_eq_false'] at this;exact this
    have hlt:X2 j<j:=by unfold X2;omega
    conv=>whnf
    refine F2 hqs hq0 ?_
    refine call (B6U b l' l.length (X2 j) j _ he (by omega) (by omega) (by omega)) (fun v st'' hv=>?_)
    obtain ⟨rfl,he',hfr'⟩:=hv
    conv=>whnf
    refine G7 ?_
    exact ⟨X2 j,hlt,X2 j,swp l' (X2 j) j,(B1a (by omega) (by omega)).trans hp,he',fun c hc=>(hfr' c hc).trans (hfr c hc),hr.step (by omega) hj hj0 h2',by omega,rfl,rfl⟩
theorem j1W (i:Nat) (hi:i<2305843009213693952):IntKind.i64.wrap (IntKind.i64.wrap (2 * (i:Int))+1)=((2 * i+1:Nat):Int):=by
 rw [A9 (x:=2 * (i:Int)) (by omega) (by omega),A9 (by omega) (by omega)];omega
theorem C3K (q b:Nat) (l:List QE) (n m:Nat) (st:St) (hq:A3T st q (.own 2 b 0 n)) (hqb:q≠b) (he:A2s st b l) (hs:Ab.Sink l m 0) (hmn:m≤n) (hn:n≤l.length) (hl:l.length<2305843009213693952) :
  S P 284 [hI q,eI 0,eI m] st fun v st'=>(∃ x,v=.bool x)∧∃ l',l'.Perm l∧(∀ k,m≤k→at_ l' k=at_ l k)∧A4N l' m∧A2s st' b l'∧∀ c,c≠b→st' c=st c:=by
 refine G0 [] Tryz.func284 ?_
 refine ⟨[0,1,2,7],fun t vs st'=>∃ (i:Nat) (l':List QE),l'.Perm l∧(∀ k,m≤k→at_ l' k=at_ l k)∧A2s st' b l'∧(∀ c,c≠b→st' c=st c)∧Ab.Sink l' m i∧i≤l.length∧t=l.length - i∧vs=[hI q,eI 0,eI m,eI i],?_,?_⟩
 ·conv=>whnf
  exact ⟨_,0,l,List.Perm.refl _,fun _ _=>rfl,he,fun c _=>rfl,hs,Nat.zero_le _,rfl,rfl⟩
 ·clear hs he
  rintro t vs st' ⟨i,l',hp,hk,he,hfr,hs,hi,rfl,rfl⟩
  have hlen:l'.length=l.length:=hp.length_eq
  obtain ⟨f,hqs,hq0⟩:=hq.frame hqb hfr
  have kid:∀ c,0<c→(X2 c=i↔c=2 * i+1∨c=2 * i+2):=fun c hc=>by unfold X2;omega
  conv=>whnf
  rw [j1W i (by omega)]
  refine B9 (fun h1=>?_) (fun h1=>?_)<;>rw [h1]<;>simp only [decide_eq_true_eq,decide_eq_false_iff_not] at h1
  ·conv=>whnf
   exact ⟨⟨_,rfl⟩,l',hp,hk,hs.done (fun c hc0 hcm hpc=>by have:=(kid c hc0).1 hpc;omega),he,hfr⟩
  have him:2 * i+1<m:=by omega
  conv=>whnf
  have w2:IntKind.i64.wrap (((2 * i+1:Nat):Int)+1)=((2 * i+2:Nat):Int):=by rw [A9 (by omega) (by omega)];omega
  rw [w2]
  -- behind the choice of a child
  have tail:∀ (j:Nat),0<j→j<m→X2 j=i→(∀ c,0<c→c<m→X2 c=i→Nah l' c j)→∀ (K:KK),(∀ v st'' l'',v=.tuple []→l''.Perm l→(∀ k,m≤k→at_ l'' k=at_ l k)→A2s st'' b l''→(∀ c,c≠b→st'' c=st c)→H1 (at_ l' j) (at_ l' i)=true→Ab.Sink l'' m j→K v st'')→H1 (at_ l' j) (at_ l' i)=true→A1o P 371 [.own 2 b 0 n,eI i,eI j] st' K:=by
   intro j hj0 hjm hpj hbest K hK hpr
   have hij:i<j:=by rw [←hpj];unfold X2;omega
   refine call (B6U b l' n i j _ he (by omega) (by omega) (by omega)) (fun v st'' hv=>?_)
   obtain ⟨rfl,he',hfr'⟩:=hv
   refine hK _ _ (swp l' i j) rfl ((B1a (by omega) (by omega)).trans hp) (fun k hkm=>?_) he' (fun c hc=>(hfr' c hc).trans (hfr c hc)) hpr (hs.step (by omega) hjm hj0 hpj hpr hbest)
   rw [A6P (by omega) (by omega),if_neg (by omega),if_neg (by omega)];exact hk k hkm
  refine B9 (fun h3=>?_) (fun h3=>?_)<;>rw [h3]<;>simp only [decide_eq_true_eq,decide_eq_false_iff_not] at h3
  ·conv=>whnf
   refine F2 hqs hq0 ?_
   refine I2 (B0b b l' n (2 * i+2) (2 * i+1) _ he (by omega) (by omega) (by omega)) ?_
   refine B9 (fun h4=>?_) (fun h4=>?_)<;>rw [h4]
   ·have hbest:∀ c,0<c→c<m→X2 c=i→Nah l' c (2 * i+2):=fun c hc0 hcm hpc=>by
     rcases (kid c hc0).1 hpc with e | e
     ·subst e;exact Y8 h4
     ·subst e;exact A2k _
    conv=>whnf
    refine F2 hqs hq0 ?_
    refine I2 (B0b b l' n (2 * i+2) i _ he (by omega) (by omega) (by omega)) ?_
    refine B9 (fun h5=>?_) (fun h5=>?_)<;>rw [h5]
    ·conv=>whnf
     exact ⟨⟨_,rfl⟩,l',hp,hk,hs.done (fun c hc0 hcm hpc=>A0c (hbest c hc0 hcm hpc) (show Nah l' (2 * i+2) i by have:=h5;simp only [Bool.not_eq_true'] at this;exact this)),he,hfr⟩
    ·conv=>whnf
     refine F2 hqs hq0 ?_
     refine tail (2 * i+2) (by omega) (by omega) ((kid _ (by omega)).2 (.inr rfl)) hbest _ (fun v st'' l'' hv hp' hk' he' hfr' hpr hs'=>?_) (by have:=h5;simp only [Bool.not_eq_false'] at this;exact this)
     subst hv;conv=>whnf
     refine G7 ?_
     exact ⟨l.length - (2 * i+2),by omega,2 * i+2,l'',hp',hk',he',hfr',hs',by omega,rfl,rfl⟩
   ·have hbest:∀ c,0<c→c<m→X2 c=i→Nah l' c (2 * i+1):=fun c hc0 hcm hpc=>by
     rcases (kid c hc0).1 hpc with e | e
     ·subst e;exact A2k _
     ·subst e;exact h4
    conv=>whnf
    refine F2 hqs hq0 ?_
    refine I2 (B0b b l' n (2 * i+1) i _ he (by omega) (by omega) (by omega)) ?_
    refine B9 (fun h5=>?_) (fun h5=>?_)<;>rw [h5]
    ·conv=>whnf
     exact ⟨⟨_,rfl⟩,l',hp,hk,hs.done (fun c hc0 hcm hpc=>A0c (hbest c hc0 hcm hpc) (show Nah l' (2 * i+1) i by have:=h5;simp only [Bool.not_eq_true'] at this;exact this)),he,hfr⟩
    ·conv=>whnf
     refine F2 hqs hq0 ?_
     refine tail (2 * i+1) (by omega) (by omega) ((kid _ (by omega)).2 (.inl rfl)) hbest _ (fun v st'' l'' hv hp' hk' he' hfr' hpr hs'=>?_) (by have:=h5;simp only [Bool.not_eq_false'] at this;exact this)
     subst hv;conv=>whnf
     refine G7 ?_
     exact ⟨l.length - (2 * i+1),by omega,2 * i+1,l'',hp',hk',he',hfr',hs',by omega,rfl,rfl⟩
  ·have hbest:∀ c,0<c→c<m→X2 c=i→Nah l' c (2 * i+1):=fun c hc0 hcm hpc=>by
    rcases (kid c hc0).1 hpc with e | e
    ·subst e;exact A2k _
    ·omega
   conv=>whnf
   refine F2 hqs hq0 ?_
   refine I2 (B0b b l' n (2 * i+1) i _ he (by omega) (by omega) (by omega)) ?_
   refine B9 (fun h5=>?_) (fun h5=>?_)<;>rw [h5]
   ·conv=>whnf
    exact ⟨⟨_,rfl⟩,l',hp,hk,hs.done (fun c hc0 hcm hpc=>A0c (hbest c hc0 hcm hpc) (show Nah l' (2 * i+1) i by have:=h5;simp only [Bool.not_eq_true'] at this;exact this)),he,hfr⟩
   ·conv=>whnf
    refine F2 hqs hq0 ?_
    refine tail (2 * i+1) (by omega) (by omega) ((kid _ (by omega)).2 (.inl rfl)) hbest _ (fun v st'' l'' hv hp' hk' he' hfr' hpr hs'=>?_) (by have:=h5;simp only [Bool.not_eq_false'] at this;exact this)
    subst hv;conv=>whnf
    refine G7 ?_
    exact ⟨l.length - (2 * i+1),by omega,2 * i+1,l'',hp',hk',he',hfr',hs',by omega,rfl,rfl⟩
theorem A2s.frame {st st':St} {b c:Nat} {l:List QE} (h:A2s st b l) (hc:c≠b) (hf:∀ a,a≠c→st' a=st a):A2s st' b l:=by
 obtain ⟨f,h1,h2⟩:=h
 exact ⟨f,by rw [hf b (fun e=>hc e.symm)];exact h1,h2⟩
theorem C5E (q b:Nat) (l:List QE) (n:Nat) (st:St) (hq:A3T st q (.own 2 b 0 (n+1))) (hqb:q≠b) (he:A2s st b l) (hn:n<l.length) (hl:l.length<2305843009213693952) :
  S P 372 [.optr 1 q 0 0] st fun v st'=>v=.iface 293 (A4X (at_ l n))∧A3T st' q (.own 2 b 0 n)∧∀ c,c≠q→st' c=st c:=by
 obtain ⟨fq,hqs,hq0⟩:=hq
 obtain ⟨f,hst,hf⟩:=he
 refine G0 [4] Tryz.func372 ?_
 refine F2 hqs hq0 ?_
 have w:IntKind.i64.wrap (((n+1:Nat):Int) - 1)=(n:Int):=by rw [A9 (by omega) (by omega)];omega
 rw [w]
 refine F2 hqs hq0 ?_
 refine E1 ?_
 refine ldV hst rfl (by omega) (v:=A4X (at_ l n)) (by rw [show 0+(n:Int).toNat=n by omega];exact hf n hn) ?_;conv=>whnf
 refine F2 hqs hq0 ?_
 refine ⟨rfl,⟨by omega,by omega,by omega⟩,.inl rfl,?_⟩;conv=>whnf
 refine N1 hqs hq0 ?_
 refine ⟨rfl,⟨_,A0 ..,?_⟩,fun c hc=>by rw [A6 hc]⟩
 rw [A5]
 show AV.agg [AV.own 2 b _ _]=_
 congr 3<;>simp
theorem C3B (q:Nat) (sv:AV) (l:List QE) (x:QE) (st st0:St) (hq:A3T st q sv) (h0:st0 q=none) (hsup:D8 st0 st) (hl:l.length<2305843009213)
  (hs:(l=[]∧sv=.emp)∨∃ b,q≠b∧st0 b=none∧sv=.own 2 b 0 l.length∧A2s st b l) :
  S P 373 [.optr 1 q 0 0,.iface 293 (A4X x)] st fun v st'=>v=.tuple []∧∃ b,q≠b∧st0 b=none∧A3T st' q (.own 2 b 0 (l.length+1))∧A2s st' b (l++[x])∧D8 st0 st':=by
 obtain ⟨fq,hqs,hq0⟩:=hq
 refine G0 [] Tryz.func373 ?_
 intro c hc
 have hcq:q≠c:=fun e=>by subst e;rw [hqs] at hc;cases hc
 conv=>whnf
 refine N1 (A0 ..) rfl ?_
 refine ⟨[6,8],[],[0,1,2,3,4,5,6,7,8],by kernel_rfl,?_⟩;conv=>whnf
 refine F2 (by rw [A6 hcq,A6 hcq];exact hqs) hq0 ?_
 have hc0:st0 c=none:=hsup.none hc
 rcases hs with ⟨rfl,rfl⟩ | ⟨b,hqb,hb0,rfl,f,hst,hf⟩
 ·conv=>whnf
  refine F2 (A0 ..) rfl ?_
  refine ⟨_,⟨rfl,rfl⟩,?_⟩;conv=>whnf
  refine apE rfl rfl rfl rfl (A6M ..) (by show 1 * 16≤_;omega) (fun h=>absurd h (by omega)) (fun _ b hb=>?_)
  have hbq:b≠q:=fun e=>by subst e;rw [A6 hcq,A6 hcq,hqs] at hb;cases hb
  have hbc:b≠c:=fun e=>by subst e;rw [A0] at hb;cases hb
  have hb':st b=none:=by rw [A6 hbc,A6 hbc] at hb;exact hb
  conv=>whnf
  refine N1 (by rw [A6 hbq.symm,A6 hcq,A6 hcq];exact hqs) hq0 ?_
  refine ⟨rfl,b,hbq.symm,hsup.none hb',⟨_,A0 ..,by rw [A5];rfl⟩,⟨_,by rw [A6 hbq,A0];rfl,fun k hk=>?_⟩,?_⟩
  ·have:k=0:=by simpa using hk
   subst this;rfl
  ·exact (((hsup.over hc0).over hc0).over (hsup.none hb')).over h0
 ·have hbc:b≠c:=fun e=>by subst e;rw [hst] at hc;cases hc
  conv=>whnf
  refine F2 (A0 ..) rfl ?_
  refine ⟨_,⟨rfl,rfl⟩,?_⟩;conv=>whnf
  refine apO (q:=C5Z) (n:=l.length) rfl rfl rfl rfl (A6M ..) (by rw [A6 hbc,A6 hbc];exact hst) rfl rfl rfl (by show (l.length+1) * 16≤_;omega) (fun h=>absurd h (by omega)) (fun _ b' hb'=>?_)
  have hb'q:b'≠q:=fun e=>by
   subst e
   rcases hb' with e | e
   ·exact hqb e
   ·rw [A6 hcq,A6 hcq,hqs] at e;cases e
  have hb'0:st0 b'=none:=by
   rcases hb' with rfl | e
   ·exact hb0
   ·by_cases hbc':b'=c
    ·subst hbc';exact hc0
    ·rw [A6 hbc',A6 hbc'] at e;exact hsup.none e
  conv=>whnf
  refine N1 (by rw [A6 hb'q.symm];unfold del;rw [if_neg hqb,A6 hcq,A6 hcq];exact hqs) hq0 ?_
  refine ⟨rfl,b',hb'q.symm,hb'0,⟨_,A0 ..,by rw [A5];rfl⟩,⟨_,by rw [A6 hb'q,A0,List.length_append];rfl,fun k hk=>?_⟩,?_⟩
  ·rw [List.length_append] at hk
   simp only [List.length_cons,List.length_nil] at hk
   unfold at_
   by_cases hkl:k<l.length
   ·simp only [hkl,if_true]
    rw [hf k hkl,List.getD_eq_getElem?_getD,List.getElem?_append_left hkl,←List.getD_eq_getElem?_getD]
   ·have:k=l.length:=by omega
    subst this
    simp only [Nat.lt_irrefl,if_false,Nat.sub_self]
    rw [show (l++[x]).getD l.length default=x by simp [List.getD_eq_getElem?_getD]]
    rfl
  ·exact ((((hsup.over hc0).over hc0).del hb0).over hb'0).over h0
theorem C3L (q:Nat) (sv:AV) (l:List QE) (x:QE) (st st0:St) (hq:A3T st q sv) (h0:st0 q=none) (hsup:D8 st0 st) (hl:l.length<2305843009213) (hh:A4N l l.length)
  (hs:(l=[]∧sv=.emp)∨∃ b,q≠b∧st0 b=none∧sv=.own 2 b 0 l.length∧A2s st b l) :
  S P 236 [hI q,.iface 293 (A4X x)] st fun v st'=>v=.tuple []∧∃ b l',q≠b∧st0 b=none∧l'.Perm (l++[x])∧A4N l' l'.length∧A3T st' q (.own 2 b 0 l'.length)∧A2s st' b l'∧D8 st0 st':=by
 refine G0 [] Tryz.func236 ?_
 refine call (C3B q sv l x st st0 hq h0 hsup hl hs) (fun v st' hv=>?_)
 obtain ⟨rfl,b,hqb,hb0,⟨fq,hqs,hq0⟩,he,hsup'⟩:=hv
 conv=>whnf
 refine F2 hqs hq0 ?_
 refine I2 (len_S b (l.length+1) _) ?_
 have w:IntKind.i64.wrap (((l.length+1:Nat):Int) - 1)=(l.length:Int):=by rw [A9 (by omega) (by omega)];omega
 rw [w]
 have e1:(l++[x]).length=l.length+1:=by simp
 have hr:Ab.Rise (l++[x]) (l++[x]).length l.length:=by rw [e1];exact hh.up x rfl
 refine call (C6S q b (l++[x]) l.length _ (by rw [e1];exact ⟨fq,hqs,hq0⟩) hqb he hr (by omega) (by omega)) (fun v st'' hv=>?_)
 obtain ⟨rfl,l',hp,hh',he',hfr⟩:=hv
 conv=>whnf
 have el:l'.length=(l++[x]).length:=hp.length_eq
 refine ⟨rfl,b,l',hqb,hb0,hp,by rw [el];exact hh',?_,he',fun c y hc=>?_⟩
 ·rw [el,e1];exact A3T.frame ⟨fq,hqs,hq0⟩ hqb hfr
 ·rw [hfr c (fun e=>by subst e;rw [hb0] at hc;cases hc)];exact hsup' c y hc
theorem B9M {l l':List QE} {m:Nat} (hm:m<l.length) (hp:l'.Perm l) (hk:∀ k,m≤k→at_ l' k=at_ (swp l 0 m) k):(at_ l 0::l'.take m).Perm (l.take (m+1)):=by
 have hlen:l'.length=l.length:=hp.length_eq
 have e1:l'.drop m=at_ l 0::l.drop (m+1):=by
  refine List.ext_getElem? fun i=>?_
  rw [List.getElem?_drop]
  have hi:=hk (m+i) (by omega)
  rw [A6P (by omega) hm] at hi
  rcases Nat.lt_or_ge (m+i) l.length with h | h
  ·have a1:l'[m+i]?=some (at_ l' (m+i)):=by
    unfold at_;rw [List.getD_eq_getElem?_getD,List.getElem?_eq_getElem (by omega)];rfl
   rw [a1,hi]
   cases i with
   | zero=>simp
   | succ i =>
    rw [if_neg (by omega),if_neg (by omega),List.getElem?_cons_succ,List.getElem?_drop]
    unfold at_
    rw [List.getD_eq_getElem?_getD,show m+(i+1)=m+1+i by omega,List.getElem?_eq_getElem (by omega)];rfl
  ·rw [List.getElem?_eq_none (by omega)]
   cases i with
   | zero=>omega
   | succ i=>rw [List.getElem?_cons_succ,List.getElem?_drop,List.getElem?_eq_none (by omega)]
 have h1:(l'.take m++(at_ l 0::l.drop (m+1))).Perm (l.take (m+1)++l.drop (m+1)):=by
  rw [←e1,List.take_append_drop,List.take_append_drop];exact hp
 have h2:((at_ l 0::l'.take m)++l.drop (m+1)).Perm (l.take (m+1)++l.drop (m+1)):=by
  refine List.Perm.trans ?_ h1
  exact List.perm_middle.symm
 exact (List.perm_append_right_iff _).1 h2
theorem C5H (q b:Nat) (l:List QE) (n:Nat) (st:St) (hq:A3T st q (.own 2 b 0 (n+1))) (hqb:q≠b) (he:A2s st b l) (hh:A4N l (n+1)) (hn:n<l.length) (hl:l.length<2305843009213693952) :
  S P 237 [hI q] st fun v st'=>v=.iface 293 (A4X (at_ l 0))∧∃ l',l'.length=l.length∧(at_ l 0::l'.take n).Perm (l.take (n+1))∧A4N l' n∧A3T st' q (.own 2 b 0 n)∧A2s st' b l'∧∀ c,c≠q→c≠b→st' c=st c:=by
 obtain ⟨fq,hqs,hq0⟩:=hq
 refine G0 [] Tryz.func237 ?_
 refine F2 hqs hq0 ?_
 refine I2 (len_S b (n+1) _) ?_
 have w:IntKind.i64.wrap (((n+1:Nat):Int) - 1)=(n:Int):=by rw [A9 (by omega) (by omega)];omega
 rw [w]
 refine F2 hqs hq0 ?_
 refine call (B6U b l (n+1) 0 n _ he (by omega) (by omega) (by omega)) (fun v st1 hv=>?_)
 obtain ⟨rfl,he1,hfr1⟩:=hv
 have hq1:A3T st1 q (.own 2 b 0 (n+1)):=A3T.frame ⟨fq,hqs,hq0⟩ hqb hfr1
 have hd:Ab.Sink (swp l 0 n) n 0:=hh.down hn
 have hsl:(swp l 0 n).length=l.length:=B3H l 0 n
 conv=>whnf
 refine call (C3K q b (swp l 0 n) (n+1) n _ hq1 hqb he1 hd (by omega) (by omega) (by omega)) (fun v st2 hv=>?_)
 obtain ⟨⟨y,rfl⟩,l',hp,hk,hh',he2,hfr2⟩:=hv
 have hl':l'.length=l.length:=hp.length_eq.trans hsl
 have hq2:A3T st2 q (.own 2 b 0 (n+1)):=hq1.frame hqb hfr2
 have htop:at_ l' n=at_ l 0:=by rw [hk n (Nat.le_refl _),A6P (by omega) hn,if_pos rfl]
 conv=>whnf
 refine call (C5E q b l' n _ hq2 hqb he2 (by omega) (by omega)) (fun v st3 hv=>?_)
 obtain ⟨rfl,hq3,hfr3⟩:=hv
 rw [htop];conv=>whnf
 refine ⟨rfl,l',hl',B9M hn (hp.trans (B1a (by omega) hn)) hk,hh',hq3,he2.frame hqb hfr3,fun c h1 h2=>by rw [hfr3 c h1,hfr2 c h2,hfr1 c h2]⟩
structure QSt (st0:St) (q:Nat) (fresh:Bool) (es:List QE) (st:St):Prop where
 new:st0 q=none
 sup:D8 st0 st
 has:∃ sv,A3T st q sv∧((es=[]∧sv=.emp)∨∃ b l n,q≠b∧st0 b=none∧sv=.own 2 b 0 n∧n≤l.length∧l.length<2305843009213∧A4N l n∧A2s st b l∧(l.take n).Perm es∧(fresh=true→n=l.length))
theorem QSt.perm {st0 st:St} {q:Nat} {f:Bool} {es es':List QE} (h:QSt st0 q f es st) (hp:es.Perm es'):QSt st0 q f es' st:=by
 obtain ⟨h1,h2,sv,hq,h3⟩:=h
 refine ⟨h1,h2,sv,hq,?_⟩
 rcases h3 with ⟨rfl,hs⟩ | ⟨b,l,n,a1,a2,a3,a4,a5,a6,a7,a8,a9⟩
 ·exact .inl ⟨List.Perm.eq_nil hp.symm,hs⟩
 ·exact .inr ⟨b,l,n,a1,a2,a3,a4,a5,a6,a7,a8.trans hp,a9⟩
theorem B0C (st:St):S P 146 [] st fun v st'=>∃ q,v=.optr 1 q 0 0∧QSt st q true [] st':=by
 refine G0 [] Tryz.func146 ?_
 intro q hq;conv=>whnf
 exact ⟨q,rfl,hq,(D8.refl st).upd hq,.emp,⟨_,A0 ..,rfl⟩,.inl ⟨rfl,rfl⟩⟩
theorem A7C (st0:St) (q:Nat) (es:List QE) (r k:Int) (st:St) (h:QSt st0 q true es st) (hl:es.length<2305843009212):S P 147 [.optr 1 q 0 0,eI r,eI k] st fun v st'=>v=.tuple []∧QSt st0 q true (es++[(r,k)]) st':=by
 obtain ⟨h1,h2,sv,hq,h3⟩:=h
 refine G0 [] Tryz.func147 ?_
 have hex:∃ l:List QE,l.Perm es∧A4N l l.length∧((l=[]∧sv=.emp)∨∃ b,q≠b∧st0 b=none∧sv=.own 2 b 0 l.length∧A2s st b l):=by
  rcases h3 with ⟨rfl,hs⟩ | ⟨b,l,n,a1,a2,a3,a4,a5,a6,a7,a8,a9⟩
  ·exact ⟨[],List.Perm.refl _,fun c h0 hc=>absurd hc (by simp),.inl ⟨rfl,hs⟩⟩
  ·have e:=a9 rfl
   subst e
   rw [List.take_length] at a8
   exact ⟨l,a8,a6,.inr ⟨b,a1,a2,a3,a7⟩⟩
 obtain ⟨l,hp,hh,hs⟩:=hex
 have hll:l.length=es.length:=hp.length_eq
 refine call (C3L q sv l (r,k) st st0 hq h1 h2 (by omega) hh hs) (fun v st' hv=>?_)
 obtain ⟨rfl,b,l',hqb,hb0,hp',hh',hq',he',hsup'⟩:=hv
 have hl':l'.length=l.length+1:=by rw [hp'.length_eq];simp
 conv=>whnf
 exact ⟨rfl,h1,hsup',_,hq',.inr ⟨b,l',l'.length,hqb,hb0,rfl,Nat.le_refl _,by omega,hh',he',by rw [List.take_length];exact hp'.trans (hp.append_right _),fun _=>rfl⟩⟩
theorem A8y (st0:St) (q:Nat) (f:Bool) (es:List QE) (st:St) (h:QSt st0 q f es st):S P 148 [.optr 1 q 0 0] st fun v st'=>v=eI es.length∧st'=st:=by
 obtain ⟨h1,h2,sv,⟨fq,hqs,hq0⟩,h3⟩:=h
 refine G0 [] Tryz.func148 ?_
 rcases h3 with ⟨rfl,rfl⟩ | ⟨b,l,n,a1,a2,rfl,a4,a5,a6,a7,a8,a9⟩
 ·refine F2 hqs hq0 ?_
  exact ⟨rfl,rfl⟩
 ·refine F2 hqs hq0 ?_
  refine ⟨?_,rfl⟩
  have:es.length=n:=by rw [←a8.length_eq,List.length_take];omega
  rw [this];rfl
theorem C4e (st0:St) (q:Nat) (f:Bool) (st:St) (h:QSt st0 q f [] st):S P 149 [.optr 1 q 0 0] st fun v st'=>v=.tuple [eI 0,eI 0,.bool false]∧st'=st:=by
 obtain ⟨h1,h2,sv,⟨fq,hqs,hq0⟩,h3⟩:=h
 refine G0 [] Tryz.func149 ?_
 rcases h3 with ⟨_,rfl⟩ | ⟨b,l,n,a1,a2,rfl,a4,a5,a6,a7,a8,a9⟩
 ·refine F2 hqs hq0 ?_
  exact ⟨rfl,rfl⟩
 ·have e:n=0:=by
   have:=a8.length_eq
   rw [List.length_take,List.length_nil] at this;omega
  subst e
  refine F2 hqs hq0 ?_
  exact ⟨rfl,rfl⟩
theorem A8z (st0:St) (q:Nat) (f:Bool) (x:QE) (es:List QE) (st:St) (h:QSt st0 q f (x::es) st) (htop:∀ y∈es,H1 y x=false):S P 149 [.optr 1 q 0 0] st fun v st'=>v=.tuple [eI x.1,eI x.2,.bool true]∧QSt st0 q false es st':=by
 obtain ⟨h1,h2,sv,hq,h3⟩:=h
 rcases h3 with ⟨h,_⟩ | ⟨b,l,n,a1,a2,rfl,a4,a5,a6,a7,a8,a9⟩
 ·cases h
 have hn:n=es.length+1:=by
  have:=a8.length_eq
  rw [List.length_take,List.length_cons] at this;omega
 subst hn
 have hx:at_ l 0=x:=by
  have m0:at_ l 0∈x::es:=by
   refine a8.subset ?_
   have:(l.take (es.length+1)).getD 0 default=at_ l 0:=by
    unfold at_;rw [List.getD_eq_getElem?_getD,List.getD_eq_getElem?_getD,List.getElem?_take_of_lt (by omega)]
   rw [←this];exact B3 (by rw [List.length_take];omega)
  have hmem:x∈l.take (es.length+1):=a8.symm.subset (List.mem_cons_self ..)
  obtain ⟨k,hk,he⟩:=E3 hmem
  rw [List.length_take] at hk
  have hxk:x=at_ l k:=by
   rw [he];unfold at_;rw [List.getD_eq_getElem?_getD,List.getD_eq_getElem?_getD,List.getElem?_take_of_lt (by omega)]
  have t1:H1 x (at_ l 0)=false:=by rw [hxk];exact a6.top k (by omega)
  rcases List.mem_cons.1 m0 with e | e
  ·exact e
  ·exact A3F (htop _ e) t1
 have hq':=hq
 obtain ⟨fq,hqs,hq0⟩:=hq
 refine G0 [] Tryz.func149 ?_
 refine F2 hqs hq0 ?_
 refine call (C5H q b l es.length st hq' a1 a7 a6 (by omega) (by omega)) (fun v st' hv=>?_)
 obtain ⟨rfl,l',hl',hp',hh',hq3,he3,hfr⟩:=hv
 rw [hx] at hp' ⊢
 have hsup':D8 st0 st':=fun c y hc=>by
  rw [hfr c (fun e=>by subst e;rw [h1] at hc;cases hc) (fun e=>by subst e;rw [a2] at hc;cases hc)];exact h2 c y hc
 conv=>whnf
 intro c hc;conv=>whnf
 refine N1 (A0 ..) rfl ?_
 refine ⟨[],[],[0,1,2,3,4,5,6],by kernel_rfl,?_⟩;conv=>whnf
 refine F2 (A0 ..) rfl ?_
 refine F2 (A0 ..) rfl ?_
 obtain ⟨fq',hqs',hq0'⟩:=hq3
 obtain ⟨fe,hes,hef⟩:=he3
 have hcq:q≠c:=fun e=>by subst e;rw [hqs'] at hc;cases hc
 have hcb:b≠c:=fun e=>by subst e;rw [hes] at hc;cases hc
 have hc0:st0 c=none:=hsup'.none hc
 refine ⟨rfl,h1,(hsup'.over hc0).over hc0,_,⟨fq',by rw [A6 hcq,A6 hcq];exact hqs',hq0'⟩,.inr ⟨b,l',es.length,a1,a2,rfl,by omega,by omega,hh',⟨fe,by rw [A6 hcb,A6 hcb];exact hes,hef⟩,?_,fun e=>by cases e⟩⟩
 exact (List.perm_cons x).1 (hp'.trans a8)
end Go.Proofs.YtbajhapmlfbelaaGreat
