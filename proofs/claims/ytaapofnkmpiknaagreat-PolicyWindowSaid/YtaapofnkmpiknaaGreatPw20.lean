/- Part 20 of the proof: contracts of the functions that the law reaches -/
import Derived.Test.YtaapofnkmpiknaaGreatPw19
set_option maxRecDepth 100000
set_option linter.unusedVariables false
set_option linter.unusedSimpArgs false
namespace Go.Proofs.YtaapofnkmpiknaaGreat
open Go Go.Ab
attribute [local irreducible] upd del
abbrev Big:Nat:=9223372036854775807
def R1 (lo hi x:Int):Bool:=decide (x≥lo)&&decide (x≤hi)
def Z0 {α : Type} [Inhabited α] (l:List α) (p:Nat→α→Bool):Bool:=(List.range l.length).all fun k=>p k (l.getD k default)
theorem A0e {α : Type} [Inhabited α] {l:List α} {p:Nat→α→Bool} (h:∀ k,k<l.length→p k (l.getD k default)=true):Z0 l p=true:=A5j h
theorem A1o {α : Type} [Inhabited α] {l:List α} {p:Nat→α→Bool} {k:Nat} (hk:k<l.length) (h:p k (l.getD k default)=false):Z0 l p=false:=A3t hk h
theorem M6 {i:Nat} {q:Nat→Prop} (h:∀ k,k<i→q k) (hi:q i):∀ k,k<i+1→q k:=fun k hk=>by
 rcases C9T.1 hk with h' | h'
 ·exact h k h'
 ·rw [h'];exact hi
theorem A9K {α : Type} [Inhabited α] (g : α→C9) (l:List α) (st:St):A4 [.arr 1 l.length (fun k=>eS (g (l.getD k default)))] st [E3 (l.map g)] st:=by
 have e:E3 (l.map g)=.arr 1 l.length (fun k=>eS ((l.map g).getD k default)):=by unfold E3 B0;rw [C9o]
 rw [e]
 exact A4.arr fun i hi=>by rw [F7 g l hi]
theorem B6Q (x:Int) (st:St):S P 87 [eI x] st fun v st'=>v=.bool (R1 0 100000 x)∧st'=st:=by
 refine SyW [] Tryz.func87 ?_
 repeat' ((conv=>whnf);first  | (refine B7 (fun h=>?_) (fun h=>?_)<;>rw [h]))
 all_goals (conv=>whnf)
 all_goals (refine ⟨?_,rfl⟩;show AV.bool _=AV.bool _;congr 1)
 all_goals (simp only [R1, *,C9K,C9A,D0n,C9I,D0d,C9X,D0f,D0a,C9Y,C9V,D0G];try rfl)
theorem B0d (x:Int) (st:St):S P 200 [eI x] st fun v st'=>v=.bool (R1 0 10000 x)∧st'=st:=by
 refine SyW [] Tryz.func200 ?_
 repeat' ((conv=>whnf);first  | (refine B7 (fun h=>?_) (fun h=>?_)<;>rw [h]))
 all_goals (conv=>whnf)
 all_goals (refine ⟨?_,rfl⟩;show AV.bool _=AV.bool _;congr 1)
 all_goals (simp only [R1, *,C9K,C9A,D0n,C9I,D0d,C9X,D0f,D0a,C9Y,C9V,D0G];try rfl)
theorem B7g (x:Int) (st:St):S P 126 [eI x] st fun v st'=>v=.bool (R1 1 9 x)∧st'=st:=by
 refine SyW [] Tryz.func126 ?_
 repeat' ((conv=>whnf);first  | (refine B7 (fun h=>?_) (fun h=>?_)<;>rw [h]))
 all_goals (conv=>whnf)
 all_goals (refine ⟨?_,rfl⟩;show AV.bool _=AV.bool _;congr 1)
 all_goals (simp only [R1, *,C9K,C9A,D0n,C9I,D0d,C9X,D0f,D0a,C9Y,C9V,D0G];try rfl)
def lineC (x:E6):Bool:=R1 0 100000 x.qty&&R1 0 1000000000 x.price
theorem C1i (x:E6) (st:St):S P 287 [M2 x] st fun v st'=>v=.bool (lineC x)∧st'=st:=by
 refine SyW [1] Tryz.func287 ?_
 repeat' ((conv=>whnf);first  | (refine B7 (fun h=>?_) (fun h=>?_)<;>rw [h]))
 all_goals (conv=>whnf)
 all_goals (refine ⟨?_,rfl⟩;show AV.bool _=AV.bool _;congr 1)
 all_goals (simp only [lineC,R1, *,C9K,C9A,D0n,C9I,D0d,C9X,D0f,D0a,C9Y,C9V,D0G];try rfl)
def B4j (x:Ab.Ship):Bool:=R1 0 1000000000 x.fee&&R1 0 10000000000000 x.free
theorem C1D (x:Ab.Ship) (st:St):S P 147 [C0s x] st fun v st'=>v=.bool (B4j x)∧st'=st:=by
 refine SyW [1] Tryz.func147 ?_
 repeat' ((conv=>whnf);first  | (refine B7 (fun h=>?_) (fun h=>?_)<;>rw [h]))
 all_goals (conv=>whnf)
 all_goals (refine ⟨?_,rfl⟩;show AV.bool _=AV.bool _;congr 1)
 all_goals (simp only [B4j,R1, *,C9K,C9A,D0n,C9I,D0d,C9X,D0f,D0a,C9Y,C9V,D0G];try rfl)
abbrev B1b (p:A8):AV:=.agg (A2 (B9 p))
def A7t (p:A8):Bool:=R1 1 10000 p.rate
def A6A (p:A8):Bool:=R1 1 1000000000 p.amount
def A6C (p:A8):Bool:=A7t p&&(R1 1 100 p.buy&&R1 1 100 p.get)
def A7v (x:A4r):Bool:=A5H x.scope&&!(decide (x.count<1)||decide (x.count>100))
theorem A9R (p:A8) (st:St):S P 242 [B1b p] st fun v st'=>v=.bool (A7t p)∧st'=st:=by
 refine SyW [1] Tryz.func242 ?_
 repeat' ((conv=>whnf);first  | (refine B7 (fun h=>?_) (fun h=>?_)<;>rw [h]))
 all_goals (conv=>whnf)
 all_goals (refine ⟨?_,rfl⟩;show AV.bool _=AV.bool _;congr 1)
 all_goals (simp only [A7t,R1, *,C9K,C9A,D0n,C9I,D0d,C9X,D0f,D0a,C9Y,C9V,D0G];try rfl)
theorem B5g (p:A8) (st:St):S P 243 [B1b p] st fun v st'=>v=.bool (A6A p)∧st'=st:=by
 refine SyW [1] Tryz.func243 ?_
 repeat' ((conv=>whnf);first  | (refine B7 (fun h=>?_) (fun h=>?_)<;>rw [h]))
 all_goals (conv=>whnf)
 all_goals (refine ⟨?_,rfl⟩;show AV.bool _=AV.bool _;congr 1)
 all_goals (simp only [A6A,R1, *,C9K,C9A,D0n,C9I,D0d,C9X,D0f,D0a,C9Y,C9V,D0G];try rfl)
theorem B5i (p:A8) (st:St):S P 244 [B1b p] st fun v st'=>v=.bool (A6C p)∧st'=st:=by
 refine SyW [1] Tryz.func244 ?_
 repeat' ((conv=>whnf);first | refine B6 (A9R p st) ?_ | (refine B7 (fun h=>?_) (fun h=>?_)<;>rw [h]))
 all_goals (conv=>whnf)
 all_goals (refine ⟨?_,rfl⟩;show AV.bool _=AV.bool _;congr 1)
 all_goals (simp only [A6C,R1, *,C9K,C9A,D0n,C9I,D0d,C9X,D0f,D0a,C9Y,C9V,D0G];try rfl)
def Q3 (s:C9):Bool:=s.toList==(⟨#[]⟩:C9).toList
def A9N (s:C9):Bool:=Q3 s||J7 s
theorem B9B (s:C9) (st:St):S P 282 [eS s] st fun v st'=>v=.bool (A9N s)∧st'=st:=by
 refine SyW [] Tryz.func282 ?_
 repeat' ((conv=>whnf);first | refine B6 (A1f s st) ?_ | (refine B7 (fun h=>?_) (fun h=>?_)<;>rw [h]))
 all_goals (conv=>whnf)
 all_goals (refine ⟨?_,rfl⟩;show AV.bool _=AV.bool _;congr 1)
 all_goals (simp only [A9N,Q3, *,C9K,C9A,D0n,C9I,D0d,C9X,D0f,D0a,C9Y,C9V,D0G];try rfl)
theorem B5d (x:A4r) (h1:x.scope.skus.length≤Big) (h2:x.scope.cats.length≤Big) (st:St):S P 280 [A2t x] st fun v st'=>v=.bool (!A7v x)∧st'=st:=by
 refine SyW [1] Tryz.func280 ?_
 repeat' ((conv=>whnf);first | refine B6 (B4i x.scope h1 h2 st) ?_ | (refine B7 (fun h=>?_) (fun h=>?_)<;>rw [h]))
 all_goals (conv=>whnf)
 all_goals (refine ⟨?_,rfl⟩;show AV.bool _=AV.bool _;congr 1)
 all_goals (simp only [A7v,C9F,D0q, *,C9K,C9A,D0n,C9I,D0d,C9X,D0f,D0a,C9Y,C9V,D0G] at *;try simp only [*,C9K,C9A,C9Y,C9V,D0f,D0a,D0G])
def B0G (l:List A4r):Prop:=l.length≤Big∧∀ x∈l,x.scope.skus.length≤Big∧x.scope.cats.length≤Big
def A6B (p:A8):Bool:=!(decide ((p.parts.length:Int)<1)||decide ((p.parts.length:Int)>3)||decide (p.amount<0)||decide (p.amount>10000000000000))&&!(p.parts.any fun x=>!A7v x)
theorem B5h (p:A8) (hp:B0G p.parts) (st:St):S P 245 [B1b p] st fun v st'=>v=.bool (A6B p)∧st'=st:=by
 refine SyW [1] Tryz.func245 ?_
 repeat' ((conv=>whnf);first | refine B6 (B2N p.parts hp.1 _ [] (fun x=>!A7v x) st fun x hx=>B5d x (hp.2 x hx).1 (hp.2 x hx).2 st) ?_ | (refine B7 (fun h=>?_) (fun h=>?_)<;>rw [h]))
 all_goals (conv=>whnf)
 all_goals (refine ⟨?_,rfl⟩;show AV.bool _=AV.bool _;congr 1)
 all_goals (simp only [A6B, *,C9K,C9A,D0n,C9I,D0d,C9X,D0f,D0a,C9Y,C9V,D0G];try rfl)
def A3e (l:List A4t) (k:Nat) (x:A4t):Bool :=
 !(decide (x.least≤(if k=0 then -1 else (l.getD (k - 1) default).least))||decide (x.least>10000000000000)||decide (x.rate<0)||decide (x.rate>10000)||decide (x.amount<0)||decide (x.amount>10000000000000)||(x.rate==0&&x.amount==0))
def A2o (l:List A4t):Bool:=!(decide ((l.length:Int)<1)||decide ((l.length:Int)>6))&&Z0 l (A3e l)
theorem B4r (p:A8) (st:St):S P 246 [B1b p] st fun v st'=>v=.bool (A2o p.tiers)∧st'=st:=by
 refine SyW [1,5] Tryz.func246 ?_
 repeat' ((conv=>whnf);first  | (refine B7 (fun h=>?_) (fun h=>?_)<;>rw [h]))
 all_goals (conv=>whnf)
 all_goals first
  | (refine ⟨?_,rfl⟩;show AV.bool _=AV.bool _;congr 1;simp only [A2o, *,D0f,D0d,C9Y,C9A];done)
  | skip
 generalize hl:p.tiers=l at *
 have hs:l.length≤6:=by simp only [C9n,C9m] at *;omega
 have ht:A2o l=Z0 l (A3e l):=by simp only [A2o, *,C9X,C9V,C9K]
 refine ⟨[3,20,21,22],fun m vs st'=>∃ i:Nat,i≤l.length∧(∀ k,k<i→A3e l k (l.getD k default)=true)∧m=l.length - i∧vs=[eI (if i=0 then -1 else (l.getD (i - 1) default).least),B0 3 A2u l,eI l.length,eI i]∧st'=st,?_,?_⟩
 ·conv=>whnf
  exact ⟨_,0,C9v _,fun k hk=>absurd hk (by omega),rfl,rfl,rfl⟩
 ·rintro m vs st' ⟨i,hi,hok,rfl,rfl,rfl⟩
  conv=>whnf
  cases h:decide ((i:Int)<(l.length:Int))
  ·have:=C9k h
   conv=>whnf
   refine ⟨?_,rfl⟩
   rw [ht,A0e fun k hk=>hok k (by omega)];rfl
  ·have hi':i<l.length:=by have:=C9j h;omega
   conv=>whnf
   refine ⟨rfl,⟨by omega,by omega⟩,?_⟩
   have yes:A3e l i (l.getD (i:Int).toNat default)=true→∀ k,k<i+1→A3e l k (l.getD k default)=true:=fun h=>M6 hok h
   have no:A3e l i (l.getD (i:Int).toNat default)=false→A2o l=false:=fun h=>by rw [ht];exact A1o hi' h
   unfold A3e at yes no
   repeat' ((conv=>whnf);first  | (refine B7 (fun h=>?_) (fun h=>?_)<;>rw [h]))
   all_goals (conv=>whnf)
   all_goals first
    | (refine ⟨?_,rfl⟩;rw [no (by simp only [*,C9K,Bool.and_self,D0d,D0f,C9Y])];rfl)
    | (refine ⟨rfl,?_⟩
       conv=>whnf
       exact ⟨l.length - (i+1),by omega,i+1,by omega,yes (by simp only [*,C9A,C9I,C9X,C9V]),rfl,by rw [C1 (by omega),if_neg (show ¬ i+1=0 by omega)];rfl,rfl⟩)
def A8R (p:A8):Bool:=J7 p.id&&R1 0 1000 p.prio&&A9N p.group&&A9N p.code&&A5H p.scope&&R1 0 10000000000000 p.least
structure A6M (s:R4):Prop where
 skus:s.skus.length≤Big
 cats:s.cats.length≤Big
theorem B9L (p:A8) (hsc:A6M p.scope) (st:St):S P 247 [B1b p] st fun v st'=>v=.bool (A8R p)∧st'=st:=by
 refine SyW [1] Tryz.func247 ?_
 repeat' ((conv=>whnf);first | refine B6 (A1f _ st) ?_ | refine B6 (B9B _ st) ?_ | refine B6 (B4i p.scope hsc.skus hsc.cats st) ?_ | (refine B7 (fun h=>?_) (fun h=>?_)<;>rw [h]))
 all_goals (conv=>whnf)
 all_goals (refine ⟨?_,rfl⟩;show AV.bool _=AV.bool _;congr 1)
 all_goals (simp only [A8R,R1, *,C9K,C9A,D0n,C9I,D0d,C9X,D0f,D0a,C9Y,C9V,D0G];try rfl)
def B2M (p:A8):Bool :=
 (((p.kind==1)||(p.kind==7)||(p.kind==3))||p.rate==0)&&((p.kind==2)||(p.kind==4)||p.amount==0)&&((p.kind==3)||(p.buy==0&&p.get==0))&&((p.kind==4)||p.parts.length==0)&&((p.kind==5)||(p.kind==6)||p.tiers.length==0)&&(((p.kind != 4)&&(p.kind != 7))||(p.scope.skus.length+p.scope.cats.length==0))&&((p.kind != 7)||!p.closes)
theorem B3X (n:Nat):((n:Int)==0)=(n==0):=by
 rw [D2j,D0Q,D0Q];omega
set_option maxHeartbeats 4000000 in
theorem B7C (p:A8) (hk:1≤p.kind∧p.kind≤7) (hs1:p.scope.skus.length≤20) (hs2:p.scope.cats.length≤20) (st:St):S P 248 [B1b p] st fun v st'=>v=.bool (B2M p)∧st'=st:=by
 refine SyW [1] Tryz.func248 ?_
 obtain ⟨id,kind,prio,group,code,closes,scope,least,rate,amount,buy,get,parts,tiers⟩:=p
 simp only at *
 have wl:IntKind.i64.wrap ((scope.skus.length:Int)+(scope.cats.length:Int))=((scope.skus.length+scope.cats.length:Nat):Int):=by rw [A6 (by omega) (by omega)];omega
 rcases (by omega:kind=1∨kind=2∨kind=3∨kind=4∨kind=5∨kind=6∨kind=7) with rfl | rfl | rfl | rfl | rfl | rfl | rfl
 all_goals repeat' ((conv=>whnf);first  | (refine B7 (fun h=>?_) (fun h=>?_)<;>rw [h]))
 all_goals (conv=>whnf)
 all_goals (refine ⟨?_,rfl⟩;show AV.bool _=AV.bool _;congr 1)
 all_goals (try rw [wl] at *)
 all_goals (simp only [B3X] at *;simp [B2M, *])
theorem A3H {P:Program} {f:FuncId} {args:List AV} {st:St} {v:AV} (h:S P f args st fun v' st'=>v'=v∧st'=st):U8 P f args st fun v' st'=>v'=v∧st'=st:=call h fun _ _ h=>h
structure K2 (p:A8):Prop where
 scope:A6M p.scope
 parts:B0G p.parts
def A8T (p:A8):Bool :=
 if p.kind=1 then A7t p else if p.kind=2 then A6A p else if p.kind=3 then A6C p else if p.kind=4 then A6B p else if p.kind=5 then A2o p.tiers else if p.kind=6 then A2o p.tiers else A7t p
def I6 (p:A8):Bool:=decide (p.kind≥1)&&decide (p.kind<8)&&A8R p&&B2M p&&A8T p
theorem A7J {s:R4} (h:A5H s=true):s.skus.length≤20∧s.cats.length≤20:=by
 simp only [A5H,C9l,C9n] at h
 exact ⟨h.1.1,h.2.1⟩
theorem A8S {p:A8} (h:A8R p=true):p.scope.skus.length≤20∧p.scope.cats.length≤20:=by
 simp only [A8R,C9l] at h
 exact A7J h.1.2
theorem A6D (p:A8) (hp:K2 p) (st:St):S P 196 [B9 p] st fun v st'=>v=.bool (I6 p)∧st'=st:=by
 refine F5 [1,3,4] Tryz.func196 ?_
 refine ⟨[],[],[0,1,2,3,4,5,6,7,8,9,10,11,12,13,14,15,16,17,18,19,20,21,22,23,24],by kernel_rfl,?_⟩;conv=>whnf
 refine B7 (fun h1=>?_) (fun h1=>?_)<;>rw [h1]
 case refine_2 =>
  conv=>whnf
  refine ⟨?_,rfl⟩
  simp only [I6,h1,C9A];rfl
 conv=>whnf
 refine B7 (fun h2=>?_) (fun h2=>?_)<;>rw [h2]
 case refine_2 =>
  conv=>whnf
  refine ⟨?_,rfl⟩
  simp only [I6,h1,h2,C9A,C9I];rfl
 have hk:1≤p.kind∧p.kind≤7:=by simp only [C9n] at h1 h2;omega
 conv=>whnf
 refine cqW (B9L p hp.scope st) ?_
 refine B7 (fun h3=>?_) (fun h3=>?_)
 case refine_2 =>
  rw [h3];conv=>whnf
  refine ⟨?_,rfl⟩
  simp only [I6,h3,C9A,C9I];rfl
 rw [h3]
 have hl:=A8S h3
 conv=>whnf
 refine cqW (B7C p hk hl.1 hl.2 st) ?_
 refine B7 (fun h4=>?_) (fun h4=>?_)
 case refine_2 =>
  rw [h4];conv=>whnf
  refine ⟨?_,rfl⟩
  simp only [I6,h4,C9A,C9I];rfl
 rw [h4]
 have hspec:I6 p=A8T p:=by simp only [I6,h1,h2,h3,h4,C9K]
 rw [hspec]
 suffices hcall:∀ f,f=(if p.kind=1 then 242 else if p.kind=2 then 243 else if p.kind=3 then 244 else if p.kind=4 then 245 else if p.kind=5 then 246 else if p.kind=6 then 246 else 242)→S P f [B1b p] st fun v st'=>v=.bool (A8T p)∧st'=st by
  clear hspec h1 h2 h3 h4 hl
  generalize A8T p=B at *
  clear hp
  obtain ⟨id,kind,prio,group,code,closes,scope,least,rate,amount,buy,get,parts,tiers⟩:=p
  simp only at hk hcall
  rcases (by omega:kind=1∨kind=2∨kind=3∨kind=4∨kind=5∨kind=6∨kind=7) with rfl | rfl | rfl | rfl | rfl | rfl | rfl
  all_goals (conv=>whnf)
  all_goals (refine ⟨⟨by dsimp only;omega,by dsimp only;omega⟩,?_⟩;conv=>whnf)
  all_goals (refine ⟨_,A3H (hcall _ rfl),?_⟩;conv=>whnf)
  all_goals exact ⟨rfl,rfl⟩
 rintro f rfl
 unfold A8T
 rcases (by omega:p.kind=1∨p.kind=2∨p.kind=3∨p.kind=4∨p.kind=5∨p.kind=6∨p.kind=7) with e | e | e | e | e | e | e<;>rw [e]
 ·exact A9R p st
 ·exact B5g p st
 ·exact B5i p st
 ·exact B5h p hp.parts st
 ·exact B4r p st
 ·exact B4r p st
 ·exact A9R p st
theorem B5b (s:C9) (st:St):S P 172 [eS s] st fun v st'=>v=.bool (!J7 s)∧st'=st:=by
 refine F5 [] Tryz.func172 ?_
 refine J0 (A1f s st) ?_
 exact ⟨rfl,rfl⟩
def U0 (l:List C9):Bool:=decide ((l.length:Int)≤4)&&A2w l&&!(l.any fun s=>!J7 s)
theorem B3B (l:List C9) (hl:l.length≤Big) (st:St):S P 120 [E3 l] st fun v st'=>v=.bool (U0 l)∧st'=st:=by
 refine SyW [] Tryz.func120 ?_
 repeat' ((conv=>whnf);first | refine B6 (A7I l hl st) ?_ | refine B6 (B5O l hl _ [] (fun s=>!J7 s) st fun x _=>B5b x st) ?_ | (refine B7 (fun h=>?_) (fun h=>?_)<;>rw [h]))
 all_goals (conv=>whnf)
 all_goals (refine ⟨?_,rfl⟩;show AV.bool _=AV.bool _;congr 1)
 all_goals (simp only [U0, *,C9K,C9A,D0n,C9I];try rfl)
theorem B8b (p x:A8) (st:St):S P 198 [B9 x,.fptr (B9 p) 0] st fun v st'=>v=.bool (x.id.toList==p.id.toList)∧st'=st:=by
 refine F5 [2] Tryz.func198 ?_
 exact ⟨rfl,rfl⟩
theorem A7M {α : Type} [Inhabited α] (e:Nat) (enc : α→AV) (l:List α) (i n:Nat) (f:Nat→AV) (hi:i≤l.length) (hn:n=i) (hf:∀ k,k<i→f k=enc (l.getD k default)) (st:St):A4 [.arr e n f] st [B0 e enc (l.take i)] st:=by
 subst hn
 have el:(l.take n).length=n:=by rw [C9D];omega
 have e2:B0 e enc (l.take n)=.arr e n (fun k=>enc ((l.take n).getD k default)):=by unfold B0;rw [el]
 rw [e2]
 refine A4.arr fun k hk=>?_
 rw [hf k hk]
 congr 1
 simp [C9i,C9w hk]
def W5 (l:List A8) (k:Nat) (p:A8):Bool:=I6 p&&!((l.take k).any fun x=>x.id.toList==p.id.toList)
def promosC (l:List A8):Bool:=decide ((l.length:Int)≤60)&&Z0 l (W5 l)
theorem B7O (l:List A8) (hl:l.length≤Big) (hf:∀ p∈l,K2 p) (st:St):S P 145 [B0 15 B9 l] st fun v st'=>v=.bool (promosC l)∧st'=st:=by
 refine F5 [4] Tryz.func145 ?_
 refine B7 (fun h=>?_) (fun h=>?_)<;>rw [h]<;>simp only [C9n,C9m] at h
 ·conv=>whnf
  refine ⟨?_,rfl⟩
  rw [show promosC l=false by unfold promosC;rw [C9s (by omega),C9A]];rfl
 have ht:promosC l=Z0 l (W5 l):=by unfold promosC;rw [D0r (by omega),C9K]
 conv=>whnf
 refine ⟨[0,8,9,10],fun m vs st'=>∃ i:Nat,i≤l.length∧(∀ k,k<i→W5 l k (l.getD k default)=true)∧m=l.length - i∧vs=[B0 15 B9 l,B0 15 B9 l,eI l.length,eI i]∧st'=st,?_,?_⟩
 ·conv=>whnf
  exact ⟨_,0,C9v _,fun k hk=>absurd hk (by omega),rfl,rfl,rfl⟩
 ·rintro m vs st' ⟨i,hi,hok,rfl,rfl,rfl⟩
  conv=>whnf
  cases h:decide ((i:Int)<(l.length:Int))
  ·have:=C9k h
   conv=>whnf
   refine ⟨?_,rfl⟩
   rw [ht,A0e fun k hk=>hok k (by omega)];rfl
  ·have hi':i<l.length:=by have:=C9j h;omega
   conv=>whnf
   refine ⟨rfl,⟨by omega,by omega⟩,?_⟩
   have yes:W5 l i (l.getD (i:Int).toNat default)=true→∀ k,k<i+1→W5 l k (l.getD k default)=true:=fun h=>M6 hok h
   have no:W5 l i (l.getD (i:Int).toNat default)=false→promosC l=false:=fun h=>by rw [ht];exact A1o hi' h
   have hmem:l.getD (i:Int).toNat default∈l:=by
    rw [C9Q,C9i,C9p hi'];exact D0t hi'
   unfold W5 at yes no;conv=>whnf
   refine J0 (A6D (l.getD (i:Int).toNat default) (hf _ hmem) _) ?_
   refine B7 (fun h1=>?_) (fun h1=>?_)
   ·rw [h1];conv=>whnf
    refine ⟨?_,rfl⟩
    rw [no (by rw [show I6 (l.getD (i:Int).toNat default)=false by simpa using h1,C9A])];rfl
   ·rw [h1]
    have h1':I6 (l.getD (i:Int).toNat default)=true:=by simpa using h1
    conv=>whnf
    refine ⟨rfl,⟨by omega,by omega,by omega⟩,?_⟩;conv=>whnf
    refine D3 (A4.cons (A7M 15 B9 l i _ _ hi (by omega) (fun k hk=>by simp) _) (A4.keep _ _)) (B6 (B1u (l.take i) (by rw [C9D];omega) _ [.fptr (B9 (l.getD (i:Int).toNat default)) 0] (fun x=>x.id.toList==(l.getD (i:Int).toNat default).id.toList) _ fun x _=>B8b _ x _) ?_);conv=>whnf
    refine B7 (fun h2=>?_) (fun h2=>?_)
    ·rw [h2];conv=>whnf
     refine ⟨?_,rfl⟩
     rw [no (by rw [h2,C9Y,C9I])];rfl
    ·rw [h2];conv=>whnf
     refine I9 ?_
     exact ⟨l.length - (i+1),by omega,i+1,by omega,yes (by rw [h1',h2];rfl),rfl,by rw [C1 (by omega)],rfl⟩
def A7h (x:Ab.Item):Bool:=!(!J7 x.sku||!J7 x.cat||decide (x.price<0)||decide (x.price>1000000000))
def A3V (l:List Ab.Item):Bool:=!decide ((l.length:Int)>500)&&(Z0 l (fun _ x=>A7h x)&&A2w (l.map Ab.Item.sku))
theorem B9u (l:List Ab.Item) (st:St):S P 144 [B0 4 H2 l] st fun v st'=>v=.bool (A3V l)∧st'=st:=by
 refine A1k ?_
 refine F5 [5] Tryz.func144 ?_
 refine B7 (fun h=>?_) (fun h=>?_)<;>rw [h]
 ·conv=>whnf
  refine ⟨?_,E9.refl _⟩
  rw [show A3V l=false by unfold A3V;rw [h];rfl];rfl
 have hs:l.length≤500:=by simp only [C9m] at h;omega
 have ht:A3V l=(Z0 l (fun _ x=>A7h x)&&A2w (l.map Ab.Item.sku)):=by unfold A3V;rw [h,C9V,C9K]
 conv=>whnf
 refine ⟨[3,9,10,11],fun m vs st'=>∃ (i:Nat) (sv:AV),i≤l.length∧(∀ k,k<i→(fun (_:Nat) (x:Ab.Item)=>A7h x) k (l.getD k default)=true)∧m=l.length - i∧vs=[sv,B0 4 H2 l,eI l.length,eI i]∧Col 9 1 (fun k=>eS (Ab.Item.sku (l.getD k default))) st i sv st',?_,?_⟩
 ·conv=>whnf
  exact ⟨_,0,.emp,C9v _,fun k hk=>absurd hk (by omega),rfl,rfl,Col.start _ _ _ _⟩
 ·rintro m vs st' ⟨i,sv,hi,hok,rfl,rfl,hc⟩
  conv=>whnf
  cases h:decide ((i:Int)<(l.length:Int))
  ·have:=C9k h
   obtain rfl:i=l.length:=by omega
   conv=>whnf
   refine D3 (hc.shift.trans (A9K Ab.Item.sku l st)) (B6 (A7I (l.map Ab.Item.sku) (by rw [C9o];omega) st) ?_);conv=>whnf
   refine ⟨?_,E9.refl _⟩
   rw [ht,A0e fun k hk=>hok k (by omega),C9K];rfl
  ·have hi':i<l.length:=by have:=C9j h;omega
   conv=>whnf
   refine ⟨rfl,⟨by omega,by omega⟩,?_⟩
   have yes:(fun (_:Nat) (x:Ab.Item)=>A7h x) i (l.getD (i:Int).toNat default)=true→∀ k,k<i+1→(fun (_:Nat) (x:Ab.Item)=>A7h x) k (l.getD k default)=true:=fun h=>M6 hok h
   have no:(fun (_:Nat) (x:Ab.Item)=>A7h x) i (l.getD (i:Int).toNat default)=false→A3V l=false:=fun h=>by rw [ht,A1o hi' h,C9A]
   have hmem:l.getD (i:Int).toNat default∈l:=by
    rw [C9Q,C9i,C9p hi'];exact D0t hi'
   have hsup:=hc.sup
   simp only [A7h] at yes no
   repeat' ((conv=>whnf);first | refine B6 (A1f _ _) ?_ | (refine B7 (fun h=>?_) (fun h=>?_)<;>rw [h]))
   all_goals (conv=>whnf)
   all_goals first
    | (refine ⟨?_,hsup⟩;rw [no (by first | (simp only [*,C9K,Bool.and_self,D0d,D0f,C9Y];done) | simpa using h)];rfl)
    | skip
   refine Col.app rfl rfl rfl rfl rfl ?_ (by show (i+1) * 16≤140737488355328;omega) hc (fun sv' st'' hc'=>?_)
   ·rfl
   conv=>whnf
   refine I9 ?_
   exact ⟨l.length - (i+1),by omega,i+1,sv',by omega,yes (by first | (simp only [*,C9A,C9I,C9X,C9V];done) | simpa using h),rfl,by rw [C1 (by omega)],hc'⟩
def A5Z (x:I4):Bool:=!(!J7 x.cat||!R1 0 10000 x.rate)
def Y3 (z:J9):Bool:=!(!J7 z.name||!R1 0 10000 z.rest||!R1 0 10000 z.ship||decide ((z.rates.length:Int)>40))&&(Z0 z.rates (fun _ x=>A5Z x)&&A2w (z.rates.map I4.cat))
theorem C1Y (z:J9) (st:St):S P 199 [X1 z] st fun v st'=>v=.bool (Y3 z)∧st'=st:=by
 refine A1k ?_
 refine SyW [1,5] Tryz.func199 ?_
 repeat' ((conv=>whnf);first | refine B6 (A1f _ _) ?_ | refine B6 (B0d _ _) ?_ | (refine B7 (fun h=>?_) (fun h=>?_)<;>rw [h]))
 all_goals (conv=>whnf)
 all_goals first
  | (refine ⟨?_,E9.refl _⟩
     rw [show Y3 z=false by unfold Y3;simp only [*,D0f,D0d,C9Y,C9A]]
     rfl)
  | skip
 have hs:z.rates.length≤40:=by simp only [C9m] at h;omega
 have ht:Y3 z=(Z0 z.rates (fun _ x=>A5Z x)&&A2w (z.rates.map I4.cat)):=by unfold Y3;simp only [*,C9X,C9V,C9K]
 refine ⟨[3,29,30,31],fun m vs st'=>∃ (i:Nat) (sv:AV),i≤z.rates.length∧(∀ k,k<i→(fun (_:Nat) (x:I4)=>A5Z x) k (z.rates.getD k default)=true)∧m=z.rates.length - i∧vs=[sv,B0 2 X0 z.rates,eI z.rates.length,eI i]∧Col 9 1 (fun k=>eS (I4.cat (z.rates.getD k default))) st i sv st',?_,?_⟩
 ·conv=>whnf
  exact ⟨_,0,.emp,C9v _,fun k hk=>absurd hk (by omega),rfl,rfl,Col.start _ _ _ _⟩
 ·rintro m vs st' ⟨i,sv,hi,hok,rfl,rfl,hc⟩
  conv=>whnf
  cases h:decide ((i:Int)<(z.rates.length:Int))
  ·have:=C9k h
   obtain rfl:i=z.rates.length:=by omega
   conv=>whnf
   refine D3 (hc.shift.trans (A9K I4.cat z.rates st)) (B6 (A7I (z.rates.map I4.cat) (by rw [C9o];omega) st) ?_);conv=>whnf
   refine ⟨?_,E9.refl _⟩
   rw [ht,A0e fun k hk=>hok k (by omega),C9K];rfl
  ·have hi':i<z.rates.length:=by have:=C9j h;omega
   conv=>whnf
   refine ⟨rfl,⟨by omega,by omega⟩,?_⟩
   have yes:(fun (_:Nat) (x:I4)=>A5Z x) i (z.rates.getD (i:Int).toNat default)=true→∀ k,k<i+1→(fun (_:Nat) (x:I4)=>A5Z x) k (z.rates.getD k default)=true:=fun h=>M6 hok h
   have no:(fun (_:Nat) (x:I4)=>A5Z x) i (z.rates.getD (i:Int).toNat default)=false→Y3 z=false:=fun h=>by rw [ht,A1o hi' h,C9A]
   have hmem:z.rates.getD (i:Int).toNat default∈z.rates:=by
    rw [C9Q,C9i,C9p hi'];exact D0t hi'
   have hsup:=hc.sup
   simp only [A5Z] at yes no
   repeat' ((conv=>whnf);first | refine B6 (A1f _ _) ?_ | refine B6 (B0d _ _) ?_ | (refine B7 (fun h=>?_) (fun h=>?_)<;>rw [h]))
   all_goals (conv=>whnf)
   all_goals first
    | (refine ⟨?_,hsup⟩;rw [no (by first | (simp only [*,C9K,Bool.and_self,D0d,D0f,C9Y];done) | simpa using h)];rfl)
    | skip
   refine Col.app rfl rfl rfl rfl rfl ?_ (by show (i+1) * 16≤140737488355328;omega) hc (fun sv' st'' hc'=>?_)
   ·rfl
   conv=>whnf
   refine I9 ?_
   exact ⟨z.rates.length - (i+1),by omega,i+1,sv',by omega,yes (by first | (simp only [*,C9A,C9I,C9X,C9V];done) | simpa using h),rfl,by rw [C1 (by omega)],hc'⟩
def taxC (x:Y6):Bool:=!(decide (x.round<0)||decide (x.round>2)||decide ((x.zones.length:Int)>20))&&(Z0 x.zones (fun _ z=>Y3 z)&&A2w (x.zones.map J9.name))
theorem C0A (x:Y6) (st:St):S P 146 [A0t x] st fun v st'=>v=.bool (taxC x)∧st'=st:=by
 refine A1k ?_
 refine SyW [1,5] Tryz.func146 ?_
 repeat' ((conv=>whnf);first  | (refine B7 (fun h=>?_) (fun h=>?_)<;>rw [h]))
 all_goals (conv=>whnf)
 all_goals first
  | (refine ⟨?_,E9.refl _⟩
     rw [show taxC x=false by unfold taxC;simp only [*,D0f,D0d,C9Y,C9A]]
     rfl)
  | skip
 have hs:x.zones.length≤20:=by simp only [C9m] at h;omega
 have ht:taxC x=(Z0 x.zones (fun _ z=>Y3 z)&&A2w (x.zones.map J9.name)):=by unfold taxC;simp only [*,C9X,C9V,C9K]
 refine ⟨[3,21,22,23],fun m vs st'=>∃ (i:Nat) (sv:AV),i≤x.zones.length∧(∀ k,k<i→(fun (_:Nat) (z:J9)=>Y3 z) k (x.zones.getD k default)=true)∧m=x.zones.length - i∧vs=[sv,B0 4 X1 x.zones,eI x.zones.length,eI i]∧Col 9 1 (fun k=>eS (J9.name (x.zones.getD k default))) st i sv st',?_,?_⟩
 ·conv=>whnf
  exact ⟨_,0,.emp,C9v _,fun k hk=>absurd hk (by omega),rfl,rfl,Col.start _ _ _ _⟩
 ·rintro m vs st' ⟨i,sv,hi,hok,rfl,rfl,hc⟩
  conv=>whnf
  cases h:decide ((i:Int)<(x.zones.length:Int))
  ·have:=C9k h
   obtain rfl:i=x.zones.length:=by omega
   conv=>whnf
   refine D3 (hc.shift.trans (A9K J9.name x.zones st)) (B6 (A7I (x.zones.map J9.name) (by rw [C9o];omega) st) ?_);conv=>whnf
   refine ⟨?_,E9.refl _⟩
   rw [ht,A0e fun k hk=>hok k (by omega),C9K];rfl
  ·have hi':i<x.zones.length:=by have:=C9j h;omega
   conv=>whnf
   refine ⟨rfl,⟨by omega,by omega⟩,?_⟩
   have yes:(fun (_:Nat) (z:J9)=>Y3 z) i (x.zones.getD (i:Int).toNat default)=true→∀ k,k<i+1→(fun (_:Nat) (z:J9)=>Y3 z) k (x.zones.getD k default)=true:=fun h=>M6 hok h
   have no:(fun (_:Nat) (z:J9)=>Y3 z) i (x.zones.getD (i:Int).toNat default)=false→taxC x=false:=fun h=>by rw [ht,A1o hi' h,C9A]
   have hmem:x.zones.getD (i:Int).toNat default∈x.zones:=by
    rw [C9Q,C9i,C9p hi'];exact D0t hi'
   have hsup:=hc.sup
   simp only [not_true] at yes no
   conv=>whnf
   refine J0 (C1Y (x.zones.getD (i:Int).toNat default) _) ?_
   refine B7 (fun h=>?_) (fun h=>?_)<;>rw [h]
   all_goals (conv=>whnf)
   all_goals first
    | (refine ⟨?_,hsup⟩;rw [no (by first | (simp only [*,C9K,Bool.and_self,D0d,D0f,C9Y];done) | simpa using h)];rfl)
    | skip
   refine Col.app rfl rfl rfl rfl rfl ?_ (by show (i+1) * 16≤140737488355328;omega) hc (fun sv' st'' hc'=>?_)
   ·rfl
   conv=>whnf
   refine I9 ?_
   exact ⟨x.zones.length - (i+1),by omega,i+1,sv',by omega,yes (by first | (simp only [*,C9A,C9I,C9X,C9V];done) | simpa using h),rfl,by rw [C1 (by omega)],hc'⟩
def A5w (l:List Int) (i:Nat) (k:Int):Bool:=!(!R1 1 9 k||(l.take i).any fun y=>k==y)
def A7i (l:List Int):Bool:=Z0 l (A5w l)
theorem B3Q (l:List Int) (hl:l.length<9223372036854775807) (st:St):S P 201 [B2 l] st fun v st'=>v=.bool (A7i l)∧st'=st:=by
 refine F5 [] Tryz.func201 ?_
 refine ⟨[0,5,6,7],fun m vs st'=>∃ i:Nat,i≤l.length∧(∀ k,k<i→A5w l k (l.getD k default)=true)∧m=l.length - i∧vs=[B2 l,B2 l,eI l.length,eI i]∧st'=st,?_,?_⟩
 ·conv=>whnf
  exact ⟨_,0,C9v _,fun k hk=>absurd hk (by omega),rfl,rfl,rfl⟩
 ·rintro m vs st' ⟨i,hi,hok,rfl,rfl,rfl⟩
  conv=>whnf
  cases h:decide ((i:Int)<(l.length:Int))
  ·have:=C9k h
   conv=>whnf
   refine ⟨?_,rfl⟩
   rw [show A7i l=true from A0e fun k hk=>hok k (by omega)];rfl
  ·have hi':i<l.length:=by have:=C9j h;omega
   conv=>whnf
   refine ⟨rfl,⟨by omega,by omega⟩,?_⟩
   have yes:A5w l i (l.getD (i:Int).toNat default)=true→∀ k,k<i+1→A5w l k (l.getD k default)=true:=fun h=>M6 hok h
   have no:A5w l i (l.getD (i:Int).toNat default)=false→A7i l=false:=fun h=>A1o hi' h
   unfold A5w at yes no;conv=>whnf
   refine J0 (B7g _ _) ?_
   refine B7 (fun h1=>?_) (fun h1=>?_)
   ·rw [h1];conv=>whnf
    refine ⟨?_,rfl⟩
    rw [no (by rw [h1];rfl)];rfl
   ·rw [h1];conv=>whnf
    refine ⟨rfl,⟨by omega,by omega,by omega⟩,?_⟩;conv=>whnf
    refine D3 (A4.cons (A7M 1 eI l i _ _ hi (by omega) (fun k hk=>by simp) _) (A4.keep _ _)) (B6 (B7e (l.take i) (by rw [C9D];omega) _ _) ?_);conv=>whnf
    refine B7 (fun h2=>?_) (fun h2=>?_)
    ·rw [h2];conv=>whnf
     refine ⟨?_,rfl⟩
     rw [no (by rw [h2,D0d,C9Y])];rfl
    ·rw [h2];conv=>whnf
     refine I9 ?_
     exact ⟨l.length - (i+1),by omega,i+1,by omega,yes (by rw [h1,h2];rfl),rfl,by rw [C1 (by omega)],rfl⟩
def A2f (p:A5e):Bool:=R1 0 100000 p.window&&R1 0 100000 p.grace&&decide (p.mode≥1)&&decide (p.mode≤3)&&R1 0 10000 p.restock&&A7i p.order&&A7i p.credit
structure R3 (r:D4):Prop where
 promos:r.promos.length≤Big
 fit:∀ p∈r.promos,K2 p
 order:r.policy.order.length<9223372036854775807
 credit:r.policy.credit.length<9223372036854775807
theorem B7L (p:A5e) (h1:p.order.length<9223372036854775807) (h2:p.credit.length<9223372036854775807) (st:St):S P 148 [B9e p] st fun v st'=>v=.bool (A2f p)∧st'=st:=by
 refine SyW [1] Tryz.func148 ?_
 repeat' ((conv=>whnf);first | refine B6 (B6Q _ st) ?_ | refine B6 (B0d _ st) ?_ | refine B6 (B3Q p.order h1 st) ?_ | refine B6 (B3Q p.credit h2 st) ?_ | (refine B7 (fun h=>?_) (fun h=>?_)<;>rw [h]))
 all_goals (conv=>whnf)
 all_goals (refine ⟨?_,rfl⟩;show AV.bool _=AV.bool _;congr 1)
 all_goals (simp only [A2f, *,C9K,C9A,D0n,C9I,D0d,C9X,D0f,D0a,C9Y,C9V,D0G];try rfl)
def J4 (r:D4):Bool:=A3V r.items&&promosC r.promos&&taxC r.tax&&B4j r.ship&&A2f r.policy
theorem B0e (r:D4) (hf:R3 r) (st:St):S P 86 [M0 r] st fun v st'=>v=.bool (J4 r)∧st'=st:=by
 refine SyW [1] Tryz.func86 ?_
 repeat' ((conv=>whnf);first | refine B6 (B9u r.items st) ?_ | refine B6 (B7O r.promos hf.promos hf.fit st) ?_ | refine B6 (C0A r.tax st) ?_ | refine B6 (C1D r.ship st) ?_ | refine B6 (B7L r.policy hf.order hf.credit st) ?_ | (refine B7 (fun h=>?_) (fun h=>?_)<;>rw [h]))
 all_goals (conv=>whnf)
 all_goals (refine ⟨?_,rfl⟩;show AV.bool _=AV.bool _;congr 1)
 all_goals (simp only [J4, *,C9K,C9A,D0n,C9I,D0d,C9X,D0f,D0a,C9Y,C9V,D0G];try rfl)
end Go.Proofs.YtaapofnkmpiknaaGreat
namespace Go.Proofs.YtaapofnkmpiknaaGreat
open Go Go.Ab
theorem A0f:∀ x:List UInt8,Op.bytesLess x x=false
 | []=>rfl
 | a::x=>by simp [Op.bytesLess,A0f x,UInt8.lt_irrefl]
theorem B0P:∀ x y z:List UInt8,Op.bytesLess x y=true→Op.bytesLess y z=true→Op.bytesLess x z=true
 | _,_,[],_,h=>by simp [Op.bytesLess] at h
 | _,[],_::_,h,_=>by simp [Op.bytesLess] at h
 | [],_::_,_::_,_,_=>by simp [Op.bytesLess]
 | a::x,b::y,c::z,h1,h2=>by
  simp only [Op.bytesLess,D0A,C9l,C9n,D0Q] at *
  rcases h1 with h1 | ⟨rfl,h1⟩
  ·rcases h2 with h2 | ⟨rfl,h2⟩
   ·exact .inl (UInt8.lt_trans h1 h2)
   ·exact .inl h1
  ·rcases h2 with h2 | ⟨rfl,h2⟩
   ·exact .inl h2
   ·exact .inr ⟨rfl,B0P x y z h1 h2⟩
theorem B6K:∀ x y:List UInt8,Op.bytesLess x y=false→Op.bytesLess y x=false→x=y
 | [],[],_,_=>rfl
 | [],_::_,h,_=>by simp [Op.bytesLess] at h
 | _::_,[],_,h=>by simp [Op.bytesLess] at h
 | a::x,b::y,h1,h2=>by
  simp only [Op.bytesLess,D0S,D1Q,C9m,C9W] at *
  have hab:a=b:=by
   have n1:=UInt8.not_lt.1 h1.1
   have n2:=UInt8.not_lt.1 h2.1
   exact UInt8.le_antisymm n2 n1
  subst hab
  rw [B6K x y (h1.2.resolve_left (by simp)) (h2.2.resolve_left (by simp))]
theorem A2k (a:C9):Y4 a a=false:=A0f _
theorem A9a {a b c:C9} (h1:Y4 a b=true) (h2:Y4 b c=true):Y4 a c=true:=B0P _ _ _ h1 h2
theorem A4V {a b:C9} (h1:Y4 a b=false) (h2:Y4 b a=false):a.toList=b.toList:=B6K _ _ h1 h2
theorem A5J {a b:C9} (h:Y4 a b=true):Y4 b a=false:=by
 cases hb:Y4 b a with
 | false=>rfl
 | true=>have:=A9a h hb;rw [A2k] at this;cases this
theorem A1z {a b c:C9} (h1:Y4 b a=false) (h2:Y4 c b=false):Y4 c a=false:=by
 cases hca:Y4 c a with
 | false=>rfl
 | true =>
  cases hab:Y4 a b with
  | true=>have:=A9a hca hab;rw [this] at h2;cases h2
  | false =>
   have e:=A4V hab h1
   have:Y4 c b=true:=by unfold Y4 at *;rw [←e];exact hca
   rw [this] at h2;cases h2
theorem B5E {a a' b b':C9} (h1:a.toList=a'.toList) (h2:b.toList=b'.toList):Y4 a b=Y4 a' b':=by unfold Y4;rw [h1,h2]
def A1A (l:List C9) (k:Nat):Bool:=k==0||!Y4 (l.getD k default) (l.getD (k - 1) default)
theorem B1G {l:List C9} (h:∀ k,k<l.length→A1A l k=true) {a b:Nat} (hab:a≤b) (hb:b<l.length):Y4 (l.getD b default) (l.getD a default)=false:=by
 induction b with
 | zero=>have:a=0:=by omega
         subst this;exact A2k _
 | succ b ih =>
  rcases D0D a (b+1) with hlt | hge
  ·have h1:=ih (by omega) (by omega)
   have h2:=h (b+1) hb
   simp only [A1A,Nat.add_one_ne_zero,D0Q,D0A,C9F,Nat.add_sub_cancel,false_or] at h2
   exact A1z h1 h2
  ·have:a=b+1:=by omega
   subst this;exact A2k _
end Go.Proofs.YtaapofnkmpiknaaGreat
namespace Go.Proofs.YtaapofnkmpiknaaGreat
open Go Go.Ab
attribute [local irreducible] upd del
theorem C0u (a:C9) (st:St):S P 259 [eS a] st fun v st'=>v=.bool false∧st'=st:=by
 refine F5 [] Tryz.func259 ?_
 refine ⟨?_,rfl⟩
 show AV.bool (!(a.toList==a.toList))=_
 simp
def A5l (a b:C9):Int:=if Y4 a b=true then -1 else if Y4 b a=true then 1 else 0
theorem B3L (a b:C9):(!(Op.bytesLess a.toList b.toList||a.toList==b.toList))=Y4 b a:=by
 cases h1:Op.bytesLess a.toList b.toList with
 | true=>rw [A5J (a:=a) (b:=b) h1];rfl
 | false =>
  cases h2:Y4 b a with
  | true =>
   have hne:(a.toList==b.toList)=false:=by
    rw [C9W];intro e
    unfold Y4 at h2;rw [e,A0f] at h2;cases h2
   rw [hne];rfl
  | false=>rw [A4V (a:=a) (b:=b) h1 h2];simp
theorem C0r (a b:C9) (st:St):S P 222 [eS a,eS b] st fun v st'=>v=eI (A5l a b)∧st'=st:=by
 refine F5 [] Tryz.func222 ?_
 refine J0 (C0u _ _) ?_
 refine J0 (C0u _ _) ?_
 refine B7 (fun h=>?_) (fun h=>?_)<;>rw [h]
 ·conv=>whnf
  exact ⟨by rw [show A5l a b = -1 from if_pos h];rfl,rfl⟩
 ·have h0:¬ Y4 a b=true:=by rw [show Y4 a b=false from h];simp
  conv=>whnf
  refine B7 (fun h2=>?_) (fun h2=>?_)
  ·have h3:Y4 b a=true:=by rw [←B3L a b];exact h2
   rw [h2];conv=>whnf
   exact ⟨by rw [show A5l a b=1 by unfold A5l;rw [if_neg h0,if_pos h3]];rfl,rfl⟩
  ·have h3:¬ Y4 b a=true:=by rw [←B3L a b,D0z];exact h2
   rw [h2];conv=>whnf
   exact ⟨by rw [show A5l a b=0 by unfold A5l;rw [if_neg h0,if_neg h3]];rfl,rfl⟩
theorem A9s (a b:Ab.Item) (st:St):S P 174 [H2 a,H2 b] st fun v st'=>v=eI (A5l a.sku b.sku)∧st'=st:=by
 refine F5 [2,3] Tryz.func174 ?_
 refine J0 (C0r _ _ _) ?_
 exact ⟨rfl,rfl⟩
theorem A6X (a b:C9):decide (A5l a b<0)=Y4 a b:=by
 unfold A5l
 split
 ·rename_i h;rw [h];rfl
 ·rename_i h
  rw [D0z] at h
  rw [h];split<;>rfl
theorem B4I (a b:C9):(A5l a b==0)=(a.toList==b.toList):=by
 unfold A5l
 split
 ·rename_i h
  have:(a.toList==b.toList)=false:=by
   rw [C9W];intro e
   unfold Y4 at h;rw [e,A0f] at h;cases h
  rw [this];rfl
 ·split
  ·rename_i h1 h
   have:(a.toList==b.toList)=false:=by
    rw [C9W];intro e
    unfold Y4 at h;rw [e,A0f] at h;cases h
   rw [this];rfl
  ·rename_i h1 h2
   rw [D0z] at h1 h2
   rw [A4V h1 h2];simp
abbrev skus (l:List Ab.Item):List C9:=l.map Ab.Item.sku
theorem B0k (l:List Ab.Item) {k:Nat} (hk:k<l.length):(skus l).getD k default=(l.getD k default).sku:=F7 Ab.Item.sku l hk
def A4Y (l:List C9):Bool:=(List.range l.length).all (A1A l)
theorem B8p (l:List Ab.Item) (hl:l.length≤9223372036854775807) (st:St):S P 173 [B0 4 H2 l,.fn (.func 174) [] []] st fun v st'=>v=.bool (A4Y (skus l))∧st'=st:=by
 refine F5 [] Tryz.func173 ?_
 have hlen:(skus l).length=l.length:=C9o ..
 refine ⟨[0,1,5],fun m vs st'=>∃ i:Int,-1≤i∧i<l.length∧(∀ k:Nat,i<k→k<l.length→A1A (skus l) k=true)∧m=(i+1).toNat∧vs=[B0 4 H2 l,.fn (.func 174) [] [],eI i]∧st'=st,?_,?_⟩
 ·conv=>whnf
  have w:IntKind.i64.wrap ((l.length:Int) - 1)=(l.length:Int) - 1:=A6 (by omega) (by omega)
  exact ⟨_,(l.length:Int) - 1,by omega,by omega,fun k h1 h2=>by omega,rfl,by rw [w],rfl⟩
 ·rintro m vs st' ⟨i,h0,hi,hok,rfl,rfl,rfl⟩
  conv=>whnf
  cases h:decide (i>0)
  ·have:=C9k h
   conv=>whnf
   refine ⟨?_,rfl⟩
   rw [show A4Y (skus l)=true from A6Q fun k hk=>?_];rfl
   rw [hlen] at hk
   rcases D0K k with e | e
   ·subst e;rfl
   ·exact hok k (by omega) hk
  ·have hp:=C9j h
   have w:IntKind.i64.wrap (i - 1)=i - 1:=A6 (by omega) (by omega)
   conv=>whnf
   refine ⟨[],[],[0,1,2,3,4,5,6,7,8,9,10,11],by kernel_rfl,?_⟩;conv=>whnf
   refine I8 ?_
   rw [w]
   refine I8 ?_
   refine cqW (A9s (l.getD i.toNat default) (l.getD (i - 1).toNat default) _) ?_
   rw [A6X]
   have e:A1A (skus l) i.toNat=!Y4 (l.getD i.toNat default).sku (l.getD (i - 1).toNat default).sku:=by
    unfold A1A
    rw [beq_false_of_ne (by omega),D0a,B0k l (by omega),B0k l (by omega),show i.toNat - 1=(i - 1).toNat by omega]
   refine B7 (fun h2=>?_) (fun h2=>?_)
   ·rw [h2] at e ⊢;conv=>whnf
    refine ⟨?_,rfl⟩
    rw [show A4Y (skus l)=false from A3t (k:=i.toNat) (by omega) e];rfl
   ·rw [h2] at e ⊢;conv=>whnf
    refine I9 ?_
    exact ⟨i.toNat,by omega,i - 1,by omega,by omega,fun k h1 h2=>by
     rcases (by omega:k=i.toNat∨i<k) with e' | e'
     ·rw [e'];exact e
     ·exact hok k e' h2,by omega,by rw [w],rfl⟩
theorem B9i (s:C9) (x:Ab.Item) (st:St):S P 176 [H2 x,.fptr (eS s) 0] st fun v st'=>v=.bool (x.sku.toList==s.toList)∧st'=st:=by
 refine F5 [2] Tryz.func176 ?_
 exact ⟨rfl,rfl⟩
abbrev X2 (l:List Ab.Item) (s:C9):Int:=idx (fun x=>x.sku.toList==s.toList) l
theorem B9q {i j:Int} (hi:0≤i) (hij:i<j) (hj:j≤9223372036854775807):IntKind.i64.wrap ((IntKind.u64.wrap (IntKind.i64.wrap (i+j))).fdiv (2 ^ (min (1:Int).toNat IntKind.u64.bits)))=(i+j) / 2:=by
 have w:IntKind.u64.wrap (IntKind.i64.wrap (i+j))=i+j:=by
  rw [IntKind.wrap_i64]
  show (_:Int) % 18446744073709551616=_
  omega
 rw [w]
 rw [show (min (1:Int).toNat IntKind.u64.bits)=1 from rfl,C9L _ (by decide)]
 rw [show ((2:Int) ^ 1)=2 from rfl,A6 (x:=(i+j) / 2) (by omega) (by omega)]
theorem B8c (l:List Ab.Item) (x:Ab.Item) (hl:l.length≤9223372036854775807) (hs:A4Y (skus l)=true) (st:St) :
  S P 177 [B0 4 H2 l,H2 x,.fn (.func 174) [] []] st fun v st'=>(∃ (i:Nat) (b:Bool),v=.tuple [eI i,.bool b]∧(if b=true then X2 l x.sku=i else X2 l x.sku = -1))∧st'=st:=by
 refine F5 [4] Tryz.func177 ?_
 have hlen:(skus l).length=l.length:=C9o ..
 have hmono:∀ a b:Nat,a≤b→b<l.length→Y4 (l.getD b default).sku (l.getD a default).sku=false:=fun a b hab hb=>by
  have:=B1G (l:=skus l) (fun k hk=>C9O.1 hs k (C9S.2 hk)) hab (by omega)
  rwa [B0k l hb,B0k l (by omega)] at this
 refine ⟨[0,2,4,8,9,10],fun m vs st'=>∃ i j:Nat,i≤j∧j≤l.length∧(∀ k,k<i→Y4 (l.getD k default).sku x.sku=true)∧(∀ k,j≤k→k<l.length→Y4 (l.getD k default).sku x.sku=false)∧m=j - i ∧
  vs=[B0 4 H2 l,.fn (.func 174) [] [],.fptr (H2 x) 0,eI l.length,eI i,eI j]∧st'=st,?_,?_⟩
 ·conv=>whnf
  exact ⟨_,0,l.length,C9v _,C9q _,fun k hk=>absurd hk (by omega),fun k h1 h2=>absurd h1 (by omega),rfl,rfl,rfl⟩
 ·rintro m vs st' ⟨i,j,hij,hj,hlo,hhi,rfl,rfl,rfl⟩
  conv=>whnf
  cases h:decide ((i:Int)<(j:Int))
  ·have:=C9k h
   obtain rfl:i=j:=by omega
   conv=>whnf
   refine ⟨[],[],[0,1,2,3,4,5,6,7,8,9,10,11,12,13,14,15],by kernel_rfl,?_⟩;conv=>whnf
   have hne:∀ k,k<i→((l.getD k default).sku.toList==x.sku.toList)=false:=fun k hk=>by
    rw [C9W];intro e
    have:=hlo k hk
    unfold Y4 at this;rw [e,A0f] at this;cases this
   refine B7 (fun h1=>?_) (fun h1=>?_)<;>rw [h1]<;>simp only [C9n,C9m] at h1
   ·conv=>whnf
    refine I8 ?_
    refine cqW (A9s (l.getD (i:Int).toNat default) x _) ?_
    rw [B4I]
    refine ⟨⟨i,(l.getD (i:Int).toNat default).sku.toList==x.sku.toList,rfl,?_⟩,rfl⟩
    split
    ·rename_i he
     exact V5 (by omega) hne he
    ·rename_i he
     rw [D0z] at he
     have hlt:Y4 (l.getD i default).sku x.sku=false:=hhi i (C9q _) (by omega)
     refine L4 fun k hk=>?_
     rcases D0D k i with hki | hki
     ·exact hne k hki
     ·rw [C9W];intro e
      have h3:=hmono i k hki hk
      rw [C9W] at he
      refine he (A4V hlt ?_)
      rw [←B5E (a:=(l.getD k default).sku) e rfl];exact h3
   ·conv=>whnf
    refine ⟨⟨i,false,rfl,?_⟩,rfl⟩
    rw [if_neg (by simp)]
    exact L4 fun k hk=>hne k (by omega)
  ·have hlt:=C9j h
   conv=>whnf
   rw [B9q (i:=i) (j:=j) (by omega) (by omega) (by omega)]
   have eh:((i:Int)+(j:Int)) / 2=(((i+j) / 2:Nat):Int):=by omega
   rw [eh]
   generalize hh:(i+j) / 2=mid at *
   refine ⟨[],[],[0,1,2,3,4,5,6,7],by kernel_rfl,?_⟩;conv=>whnf
   refine I8 ?_
   refine cqW (A9s (l.getD (mid:Int).toNat default) x _) ?_
   rw [A6X]
   refine B7 (fun h1=>?_) (fun h1=>?_)
   ·have h1':Y4 (l.getD mid default).sku x.sku=true:=h1
    rw [h1];conv=>whnf
    refine I9 ?_
    refine ⟨j - (mid+1),by omega,mid+1,j,by omega,hj,fun k hk=>?_,hhi,rfl,by rw [C1 (by omega)],rfl⟩
    cases hk2:Y4 (l.getD k default).sku x.sku with
    | true=>rfl
    | false =>
     have h3:=hmono k mid (by omega) (by omega)
     have:=A1z hk2 (show Y4 (l.getD mid default).sku (l.getD k default).sku=false from h3)
     rw [h1'] at this
     cases this
   ·have h1':Y4 (l.getD mid default).sku x.sku=false:=h1
    rw [h1];conv=>whnf
    refine I9 ?_
    refine ⟨mid - i,by omega,i,mid,by omega,by omega,hlo,fun k h2 h3=>?_,rfl,rfl,rfl⟩
    exact A1z (b:=(l.getD mid default).sku) (by exact h1') (hmono mid k h2 h3)
theorem B2r (l:List Ab.Item) (s:C9) (hl:l.length≤9223372036854775807) (st:St):S P 121 [B0 4 H2 l,eS s] st fun v st'=>v=eI (X2 l s)∧st'=st:=by
 refine F5 [3,5] Tryz.func121 ?_
 refine J0 (B8p l (by omega) _) ?_
 refine B7 (fun h=>?_) (fun h=>?_)
 ·rw [h];conv=>whnf
  refine J0 (A9G l (by omega) _ [.fptr (eS s) 0] (fun x=>x.sku.toList==s.toList) _ fun x _=>B9i s x _) ?_
  exact ⟨rfl,rfl⟩
 ·rw [h]
  have hs:A4Y (skus l)=true:=by simpa using h
  conv=>whnf
  refine call (B8c l ⟨s,⟨#[]⟩,0,false⟩ hl hs _) (fun v st' hv=>?_)
  obtain ⟨⟨i,b,rfl,hb⟩,rfl⟩:=hv
  conv=>whnf
  cases b with
  | true =>
   conv=>whnf
   rw [if_pos rfl] at hb
   exact ⟨by rw [show X2 l s=i from hb];rfl,rfl⟩
  | false =>
   conv=>whnf
   rw [if_neg (by simp)] at hb
   exact ⟨by rw [show X2 l s = -1 from hb];rfl,rfl⟩
def O6 (l:List E6):Int:=l.foldl (fun s x=>s+x.qty) 0
def M8 (l:List E6):Int:=l.foldl (fun s x=>s+x.qty * x.price) 0
theorem A0g (x:E6):lineC x=true↔(0≤x.qty∧x.qty≤100000)∧(0≤x.price∧x.price≤1000000000):=by
 simp [lineC,R1]
theorem B7k {x:E6} (h:lineC x=true):0≤x.qty * x.price∧x.qty * x.price≤100000000000000:=by
 obtain ⟨⟨a,b⟩,c,d⟩:=(A0g x).1 h
 exact ⟨D0x a c,D1U b d c (by omega)⟩
theorem C1P (l:List E6) (hl:l.length≤1000) (hok:∀ x∈l,lineC x=true) (st:St):S P 288 [B0 3 M2 l] st fun v st'=>v=.tuple [eI (O6 l),eI (M8 l)]∧st'=st:=by
 refine F5 [7] Tryz.func288 ?_
 refine ⟨[4,5,8,9,10],fun m vs st'=>∃ i:Nat,i≤l.length∧(0≤O6 (l.take i)∧O6 (l.take i)≤i * 100000)∧(0≤M8 (l.take i)∧M8 (l.take i)≤i * 100000000000000)∧m=l.length - i∧vs=[eI (O6 (l.take i)),eI (M8 (l.take i)),B0 3 M2 l,eI l.length,eI i]∧st'=st,?_,?_⟩
 ·conv=>whnf
  exact ⟨_,0,C9v _,⟨C9R _,by simp [O6]⟩,⟨C9R _,by simp [M8]⟩,rfl,rfl,rfl⟩
 ·rintro m vs st' ⟨i,hi,hu,hg,rfl,rfl,rfl⟩
  conv=>whnf
  cases h:decide ((i:Int)<(l.length:Int))
  ·have:=C9k h
   obtain rfl:i=l.length:=by omega
   conv=>whnf
   refine ⟨?_,rfl⟩
   rw [C9u];rfl
  ·have hi':i<l.length:=by have:=C9j h;omega
   have hmem:l.getD (i:Int).toNat default∈l:=by
    rw [C9Q,C9i,C9p hi'];exact D0t hi'
   have hx:=hok _ hmem
   obtain ⟨⟨q0,q1⟩,_⟩:=(A0g _).1 hx
   obtain ⟨m0,m1⟩:=B7k hx
   have eu:O6 (l.take (i+1))=O6 (l.take i)+(l.getD (i:Int).toNat default).qty:=K3 hi' _ _
   have eg:M8 (l.take (i+1))=M8 (l.take i)+(l.getD (i:Int).toNat default).qty * (l.getD (i:Int).toNat default).price:=K3 hi' _ _
   have w1:IntKind.i64.wrap (O6 (l.take i)+(l.getD (i:Int).toNat default).qty)=O6 (l.take (i+1)):=by rw [eu];exact A6 (by omega) (by omega)
   have w2:IntKind.i64.wrap ((l.getD (i:Int).toNat default).qty * (l.getD (i:Int).toNat default).price)=(l.getD (i:Int).toNat default).qty * (l.getD (i:Int).toNat default).price:=A6 (by omega) (by omega)
   have w3:IntKind.i64.wrap (M8 (l.take i)+(l.getD (i:Int).toNat default).qty * (l.getD (i:Int).toNat default).price)=M8 (l.take (i+1)):=by rw [eg];exact A6 (by omega) (by omega)
   conv=>whnf
   refine I8 ?_
   refine I9 ?_
   refine ⟨l.length - (i+1),by omega,i+1,by omega,?_,?_,rfl,?_,rfl⟩
   ·rw [eu];omega
   ·rw [eg];omega
   ·rw [C1 (by omega),←w1,←w3,w2]
def M5 (kn:C9→Bool) (x:E6):Bool:=!(kn x.sku&&lineC x)
def S1 (kn:C9→Bool) (l:List E6):Int :=
 if l.length>1000 then 6 else match l.find? (M5 kn) with
  | some x=>if kn x.sku=true then 2 else 7
  | none=>if (decide (O6 l>100000)||decide (M8 l>10000000000000))=true then 5 else 0
theorem A5p {α : Type} [Inhabited α] {p : α→Bool} {l:List α} {i:Nat} (hi:i<l.length) (h:∀ k,k<i→p (l.getD k default)=false) (hp:p (l.getD i default)=true):l.find? p=some (l.getD i default):=by
 induction l generalizing i with
 | nil=>simp at hi
 | cons a l ih =>
  cases i with
  | zero=>simp only [D1J] at hp ⊢;rw [D2h hp]
  | succ i =>
   have h0:=h 0 (by omega)
   simp only [D1J] at h0
   rw [D2i (by simp [h0])]
   simp only [List.getD_cons_succ] at hp ⊢
   exact ih (by simpa using hi) (fun k hk=>by simpa using h (k+1) (by omega)) hp
theorem A8H {α : Type} [Inhabited α] {p : α→Bool} {l:List α} (h:∀ k,k<l.length→p (l.getD k default)=false):l.find? p=none:=by
 rw [D1N]
 intro x hx
 obtain ⟨i,hi,rfl⟩:=D1W hx
 have:=h i hi
 simpa [hi] using this
theorem A7 {α : Type} [Inhabited α] {l:List α} {i:Nat} (hi:i<l.length):l.getD i default∈l:=by
 rw [C9i,C9p hi];exact D0t hi
theorem F2 {α : Type} [Inhabited α] {l:List α} {x : α} (h:x∈l):∃ i,i<l.length∧x=l.getD i default:=by
 obtain ⟨i,hi,rfl⟩:=D1W h
 exact ⟨i,hi,by simp [hi]⟩
theorem B3A (l:List E6) (kn:C9→Bool) (g:FuncId) (cs:List AV) (st:St) (hg:∀ x∈l,S P g (eS x.sku::cs) st fun v st'=>v=.bool (kn x.sku)∧st'=st) :
  S P 260 [B0 3 M2 l,.fn (.func g) [] cs] st fun v st'=>v=eI (S1 kn l)∧st'=st:=by
 refine F5 [6] Tryz.func260 ?_
 refine B7 (fun h=>?_) (fun h=>?_)<;>rw [h]<;>simp only [C9n,C9m] at h
 ·conv=>whnf
  exact ⟨by rw [show S1 kn l=6 from if_pos (by omega)];rfl,rfl⟩
 have hs:l.length≤1000:=by omega
 have hc:S1 kn l=match l.find? (M5 kn) with
  | some x=>if kn x.sku=true then 2 else 7
  | none=>if (decide (O6 l>100000)||decide (M8 l>10000000000000))=true then 5 else 0:=if_neg (by omega)
 conv=>whnf
 refine ⟨[0,1,12,13,14],fun m vs st'=>∃ i:Nat,i≤l.length∧(∀ k,k<i→M5 kn (l.getD k default)=false)∧m=l.length - i∧vs=[B0 3 M2 l,.fn (.func g) [] cs,B0 3 M2 l,eI l.length,eI i]∧st'=st,?_,?_⟩
 ·conv=>whnf
  exact ⟨_,0,C9v _,fun k hk=>absurd hk (by omega),rfl,rfl,rfl⟩
 ·rintro m vs st' ⟨i,hi,hok,rfl,rfl,rfl⟩
  conv=>whnf
  cases h:decide ((i:Int)<(l.length:Int))
  ·have:=C9k h
   rw [A8H fun k hk=>hok k (by omega)] at hc
   have hall:∀ x∈l,lineC x=true:=fun x hx=>by
    obtain ⟨k,hk,rfl⟩:=F2 hx
    have:=hok k (by omega)
    simp only [M5,D0q,C9l] at this
    exact this.2
   conv=>whnf
   refine J0 (C1P l hs hall _) ?_
   refine B7 (fun h1=>?_) (fun h1=>?_)
   ·rw [h1] at hc ⊢;conv=>whnf
    exact ⟨by rw [hc];rfl,rfl⟩
   ·rw [h1] at hc ⊢;conv=>whnf
    refine B7 (fun h2=>?_) (fun h2=>?_)
    ·rw [h2] at hc ⊢;conv=>whnf
     exact ⟨by rw [hc];rfl,rfl⟩
    ·rw [h2] at hc ⊢;conv=>whnf
     exact ⟨by rw [hc];rfl,rfl⟩
  ·have hi':i<l.length:=by have:=C9j h;omega
   have hmem:l.getD (i:Int).toNat default∈l:=A7 hi'
   conv=>whnf
   refine I8 ?_
   refine J0 (hg _ hmem) ?_
   refine B7 (fun h1=>?_) (fun h1=>?_)
   ·have hk:kn (l.getD (i:Int).toNat default).sku=false:=by simpa using h1
    rw [h1];conv=>whnf
    rw [A5p hi' hok (by show M5 kn (l.getD (i:Int).toNat default)=true;unfold M5;rw [hk];rfl)] at hc
    simp only at hc
    rw [if_neg (by rw [show kn (l.getD i default).sku=false from hk];simp)] at hc
    exact ⟨by rw [hc];rfl,rfl⟩
   ·have hk:kn (l.getD (i:Int).toNat default).sku=true:=by simpa using h1
    rw [h1];conv=>whnf
    refine J0 (C1i (l.getD (i:Int).toNat default) _) ?_
    refine B7 (fun h2=>?_) (fun h2=>?_)
    ·have hl:lineC (l.getD (i:Int).toNat default)=false:=by simpa using h2
     rw [h2];conv=>whnf
     rw [A5p hi' hok (by show M5 kn (l.getD (i:Int).toNat default)=true;unfold M5;rw [hl,C9I];rfl)] at hc
     simp only at hc
     rw [if_pos (show kn (l.getD i default).sku=true from hk)] at hc
     exact ⟨by rw [hc];rfl,rfl⟩
    ·have hl:lineC (l.getD (i:Int).toNat default)=true:=by simpa using h2
     rw [h2];conv=>whnf
     refine I9 ?_
     exact ⟨l.length - (i+1),by omega,i+1,by omega,M6 hok (by show M5 kn (l.getD (i:Int).toNat default)=false;unfold M5;rw [hk,hl];rfl),rfl,by rw [C1 (by omega)],rfl⟩
theorem B6D (s:C9) (st:St):S P 262 [eS s] st fun v st'=>v=.bool true∧st'=st:=by
 refine F5 [] Tryz.func262 ?_
 exact ⟨rfl,rfl⟩
theorem C2x (l:List E6) (st:St):S P 224 [B0 3 M2 l] st fun v st'=>v=.bool (S1 (fun _=>true) l==0)∧st'=st:=by
 refine F5 [] Tryz.func224 ?_
 refine J0 (B3A l (fun _=>true) _ [] _ fun x _=>B6D x.sku _) ?_
 exact ⟨rfl,rfl⟩
theorem B9v (items:List Ab.Item) (hl:items.length≤9223372036854775807) (s:C9) (st:St):S P 261 [eS s,.fptr (B0 4 H2 items) 0] st fun v st'=>v=.bool (decide (X2 items s≥0))∧st'=st:=by
 refine F5 [] Tryz.func261 ?_
 refine J0 (B2r items s hl _) ?_
 exact ⟨rfl,rfl⟩
def known (items:List Ab.Item) (s:C9):Bool:=decide (X2 items s≥0)
theorem B8N (items:List Ab.Item) (l:List E6) (hl:items.length≤9223372036854775807) (st:St):S P 223 [B0 4 H2 items,B0 3 M2 l] st fun v st'=>v=eI (S1 (known items) l)∧st'=st:=by
 refine F5 [2] Tryz.func223 ?_
 refine J0 (B3A l (known items) _ [.fptr (B0 4 H2 items) 0] _ fun x _=>B9v items hl x.sku _) ?_
 exact ⟨rfl,rfl⟩
def C2 (items:List Ab.Item) (l:List E6):List Ab.Item:=l.map fun x=>items.getD (X2 items x.sku).toNat default
theorem A5u (items:List Ab.Item) (l:List E6) (hi:items.length≤9223372036854775807) (hl:l.length≤1000) (hk:∀ x∈l,known items x.sku=true) (st:St):S P 123 [B0 4 H2 items,B0 3 M2 l] st fun v st'=>v=B0 4 H2 (C2 items l)∧st'=st:=by
 have he:B0 4 H2 (C2 items l)=.arr 4 l.length (fun k=>H2 ((C2 items l).getD k default)):=by unfold B0;rw [show (C2 items l).length=l.length from C9o ..]
 rw [he]
 refine B6t (ty:=86) ?_
 refine F5 [7] Tryz.func123 ?_
 refine ⟨[0,5,9,10,11],fun m vs st'=>∃ (i:Nat) (sv:AV),i≤l.length∧m=l.length - i∧vs=[B0 4 H2 items,sv,B0 3 M2 l,eI l.length,eI i]∧Col 86 4 (fun k=>H2 ((C2 items l).getD k default)) st i sv st',?_,?_⟩
 ·conv=>whnf
  exact ⟨_,0,.emp,C9v _,rfl,rfl,Col.start _ _ _ _⟩
 ·rintro m vs st' ⟨i,sv,hi,rfl,rfl,hc⟩
  conv=>whnf
  cases h:decide ((i:Int)<(l.length:Int))
  ·have:=C9k h
   obtain rfl:i=l.length:=by omega
   conv=>whnf
   exact hc
  ·have hi':i<l.length:=by have:=C9j h;omega
   have hmem:l.getD (i:Int).toNat default∈l:=A7 hi'
   have hkn:=hk _ hmem
   simp only [known,C9n] at hkn
   have hlt:X2 items (l.getD (i:Int).toNat default).sku<(items.length:Int):=(A9D (fun x:Ab.Item=>x.sku.toList==(l.getD (i:Int).toNat default).sku.toList) items).2
   conv=>whnf
   refine I8 ?_
   refine J0 (B2r items (l.getD (i:Int).toNat default).sku (by omega) _) ?_
   refine B7 (fun h1=>?_) (fun h1=>?_)
   ·exact absurd (C9j h1) (by omega)
   ·rw [h1];conv=>whnf
    refine I8 ?_
    refine Col.app rfl rfl rfl rfl rfl ?_ (by show (i+1) * 48≤140737488355328;omega) hc (fun sv' st'' hc'=>?_)
    ·have e:(C2 items l).getD i default=items.getD (X2 items (l.getD i default).sku).toNat default:=F7 (fun x:E6=>items.getD (X2 items x.sku).toNat default) l hi'
     rw [e];rfl
    conv=>whnf
    refine I9 ?_
    exact ⟨l.length - (i+1),by omega,i+1,sv',by omega,rfl,by rw [C1 (by omega)],hc'⟩
end Go.Proofs.YtaapofnkmpiknaaGreat
namespace Go.Ab
abbrev QE:=Int×Int
def D0 (a b:QE):Bool:=decide (a.1>b.1)||(a.1==b.1&&decide (a.2<b.2))
theorem A5C (a b:QE):D0 a b=true↔a.1>b.1∨(a.1=b.1∧a.2<b.2):=by simp [D0]
theorem P3 (a b:QE):D0 a b=false↔¬(a.1>b.1∨(a.1=b.1∧a.2<b.2)):=by rw [←A5C,D0z]
theorem P2 {a b:QE} (h:D0 a b=true):D0 b a=false:=by rw [A5C] at h;rw [P3];omega
theorem A0b (a:QE):D0 a a=false:=by rw [P3];omega
theorem Q2 {a b c:QE} (h:D0 a b=false) (k:D0 b c=false):D0 a c=false:=by rw [P3] at *;omega
theorem C1j {a b c:QE} (h:D0 a b=false) (k:D0 c b=true):D0 a c=false:=by rw [P3] at *;rw [A5C] at k;omega
theorem A5D {a b:QE} (h:D0 a b=false) (k:D0 b a=false):a=b:=by
 rw [P3] at *
 exact Prod.ext (by omega) (by omega)
abbrev at_ (l:List QE) (k:Nat):QE:=l.getD k default
def swp (l:List QE) (i j:Nat):List QE:=(l.set i (at_ l j)).set j (at_ l i)
theorem B0v (l:List QE) (i j:Nat):(swp l i j).length=l.length:=by simp [swp]
theorem A4l {l:List QE} {i j:Nat} (hi:i<l.length) (hj:j<l.length) (k:Nat):at_ (swp l i j) k=if k=j then at_ l i else if k=i then at_ l j else at_ l k:=by
 unfold swp at_
 simp only [C9i,D0O,D0p]
 by_cases h1:k=j
 ·subst h1;simp [hj]
 ·rw [if_neg (fun e=>h1 e.symm),if_neg h1]
  by_cases h2:k=i
  ·subst h2;simp [hi]
  ·rw [if_neg (fun e=>h2 e.symm),if_neg h2]
theorem A7Y {l:List QE} {i j:Nat} (hi:i<l.length) (hj:j<l.length):(swp l i j).Perm l:=by
 have e1:at_ l j=l[j]:=by simp [at_,hj]
 have e2:at_ l i=l[i]:=by simp [at_,hi]
 unfold swp
 rw [e1,e2]
 exact List.set_set_perm hi hj
def Nah (l:List QE) (c p:Nat):Prop:=D0 (at_ l c) (at_ l p)=false
def O3 (c:Nat):Nat:=(c - 1) / 2
def A2K (l:List QE) (m:Nat):Prop:=∀ c,0<c→c<m→Nah l c (O3 c)
structure Rise (l:List QE) (m j:Nat):Prop where
 a:∀ c,0<c→c<m→c≠j→Nah l c (O3 c)
 b:∀ c,0<c→c<m→O3 c=j→0<j→Nah l c (O3 j)
structure Sink (l:List QE) (m i:Nat):Prop where
 a:∀ c,0<c→c<m→O3 c≠i→Nah l c (O3 c)
 b:∀ c,0<c→c<m→O3 c=i→0<i→Nah l c (O3 i)
theorem Rise.done {l:List QE} {m j:Nat} (h:Rise l m j) (hj:j=0∨Nah l j (O3 j)):A2K l m:=fun c h0 hc=>by
 by_cases e:c=j
 ·subst e;rcases hj with hj | hj
  ·omega
  ·exact hj
 ·exact h.a c h0 hc e
theorem Rise.step {l:List QE} {m j:Nat} (h:Rise l m j) (hm:m≤l.length) (hj:j<m) (h0:0<j) (ha:D0 (at_ l j) (at_ l (O3 j))=true):Rise (swp l (O3 j) j) m (O3 j):=by
 have hp:O3 j<j:=by unfold O3;omega
 have sw:=A4l (l:=l) (i:=O3 j) (j:=j) (by omega) (by omega)
 refine ⟨fun c hc0 hcm hne=>?_,fun c hc0 hcm hpc hp0=>?_⟩
 ·have hpc:O3 c<c:=by unfold O3;omega
  unfold Nah
  rw [sw c,sw (O3 c)]
  by_cases ecj:c=j
  ·subst ecj
   rw [if_pos rfl,if_neg (by omega),if_pos rfl]
   exact P2 ha
  ·rw [if_neg ecj,if_neg hne]
   by_cases epj:O3 c=j
   ·rw [if_pos epj];exact h.b c hc0 hcm epj h0
   ·rw [if_neg epj]
    by_cases epi:O3 c=O3 j
    ·rw [if_pos epi]
     have:=h.a c hc0 hcm ecj
     unfold Nah at this;rw [epi] at this
     exact C1j this ha
    ·rw [if_neg epi];exact h.a c hc0 hcm ecj
 ·have hpp:O3 (O3 j)<O3 j:=by unfold O3 at *;omega
  have hpj:=h.a (O3 j) hp0 (by omega) (by omega)
  unfold Nah at *
  rw [sw c,sw (O3 (O3 j)),if_neg (show ¬ O3 (O3 j)=j by omega),if_neg (show ¬ O3 (O3 j)=O3 j by omega)]
  by_cases ecj:c=j
  ·rw [if_pos ecj];exact hpj
  ·rw [if_neg ecj,if_neg (show ¬ c=O3 j by unfold O3 at *;omega)]
   have:=h.a c hc0 hcm ecj
   unfold Nah at this;rw [hpc] at this
   exact Q2 this hpj
theorem Sink.done {l:List QE} {m i:Nat} (h:Sink l m i) (hc:∀ c,0<c→c<m→O3 c=i→Nah l c i):A2K l m:=fun c h0 hcm=>by
 by_cases e:O3 c=i
 ·rw [e];exact hc c h0 hcm e
 ·exact h.a c h0 hcm e
theorem Sink.step {l:List QE} {m i j:Nat} (h:Sink l m i) (hm:m≤l.length) (hj:j<m) (h0:0<j) (hp:O3 j=i) (ha:D0 (at_ l j) (at_ l i)=true)
  (hb:∀ c,0<c→c<m→O3 c=i→Nah l c j):Sink (swp l i j) m j:=by
 have hij:i<j:=by rw [←hp];unfold O3;omega
 have sw:=A4l (l:=l) (i:=i) (j:=j) (by omega) (by omega)
 refine ⟨fun c hc0 hcm hne=>?_,fun c hc0 hcm hpc hp0=>?_⟩
 ·have hpc:O3 c<c:=by unfold O3;omega
  unfold Nah
  rw [sw c,sw (O3 c),if_neg hne]
  by_cases ecj:c=j
  ·subst ecj
   rw [if_pos rfl,if_pos hp]
   exact P2 ha
  ·rw [if_neg ecj]
   by_cases epi:O3 c=i
   ·rw [if_pos epi,if_neg (by omega)]
    exact hb c hc0 hcm epi
   ·rw [if_neg epi]
    by_cases eci:c=i
    ·rw [if_pos eci]
     subst eci
     exact h.b j h0 hj hp hc0
    ·rw [if_neg eci];exact h.a c hc0 hcm epi
 ·have:j<c:=by unfold O3 at hpc;omega
  unfold Nah
  rw [hp,sw c,sw i,if_neg (show ¬ c=j by omega),if_neg (show ¬ c=i by omega),if_neg (show ¬ i=j by omega),if_pos rfl]
  have:=h.a c hc0 hcm (by omega)
  unfold Nah at this;rw [hpc] at this;exact this
theorem A2K.top {l:List QE} {m:Nat} (h:A2K l m):∀ k,k<m→Nah l k 0:=by
 intro k
 induction k using Nat.strongRecOn with
 | _ k ih =>
  intro hk
  rcases D0K k with e | e
  ·subst e;exact A0b _
  ·have hp:O3 k<k:=by unfold O3;omega
   exact Q2 (h k e hk) (ih (O3 k) hp (by omega))
theorem A2K.up {l:List QE} {m:Nat} (h:A2K l m) (x:QE) (hm:m=l.length):Rise (l++[x]) (m+1) m:=by
 have old:∀ k,k<m→at_ (l++[x]) k=at_ l k:=fun k hk=>by
  unfold at_;rw [C9i,C9i,C9z (by omega)]
 refine ⟨fun c h0 hc hne=>?_,fun c h0 hc hpc hm0=>?_⟩
 ·have hp:O3 c<c:=by unfold O3;omega
  unfold Nah
  rw [old c (by omega),old (O3 c) (by omega)]
  exact h c h0 (by omega)
 ·unfold O3 at hpc;omega
theorem A2K.down {l:List QE} {m:Nat} (h:A2K l (m+1)) (hm:m<l.length):Sink (swp l 0 m) m 0:=by
 have sw:=A4l (l:=l) (i:=0) (j:=m) (by omega) (by omega)
 refine ⟨fun c h0 hc hne=>?_,fun c h0 hc hpc h00=>by omega⟩
 have hp:O3 c<c:=by unfold O3;omega
 unfold Nah
 rw [sw c,sw (O3 c),if_neg (by omega),if_neg (by omega),if_neg (by omega),if_neg hne]
 exact h c h0 (by omega)
end Go.Ab
namespace Go.Proofs.YtaapofnkmpiknaaGreat
open Go Go.Ab
attribute [local irreducible] upd del
def A2S (x:QE):AV:=.agg [eI x.1,eI x.2]
def A0j (st:St) (b:Nat) (l:List QE):Prop:=∃ f,st b=some ⟨320,2,l.length,f⟩∧∀ k,k<l.length→f k=A2S (at_ l k)
theorem A7j (b:Nat) (l:List QE) (n i j:Nat) (st:St) (h:A0j st b l) (hn:n≤l.length) (hi:i<n) (hj:j<n) :
  S P 362 [.own 2 b 0 n,eI i,eI j] st fun v st'=>v=.bool (D0 (at_ l i) (at_ l j))∧st'=st:=by
 obtain ⟨f,hst,hf⟩:=h
 refine F5 [] Tryz.func362 ?_
 refine ⟨[],[],[0,1,2,3,4,5,6,7,8,9,10,11,12,13,14,15,16,17,18,19,20,21,22,23,24,25,26,27,28,29,30,31,32,33,34,35,36,37],by kernel_rfl,?_⟩;conv=>whnf
 have fi:f (0+(i:Int).toNat)=A2S (at_ l i):=by rw [C9y];exact hf i (by omega)
 have fj:f (0+(j:Int).toNat)=A2S (at_ l j):=by rw [C9y];exact hf j (by omega)
 have li:0+(i:Int).toNat<l.length:=by omega
 have lj:0+(j:Int).toNat<l.length:=by omega
 refine I8 ?_
 refine ldV hst rfl li fi ?_;conv=>whnf
 refine I8 ?_
 refine ldV hst rfl lj fj ?_;conv=>whnf
 unfold D0
 refine B7 (fun h1=>?_) (fun h1=>?_)<;>rw [h1]
 ·conv=>whnf
  exact ⟨rfl,rfl⟩
 conv=>whnf
 refine I8 ?_
 refine ldV hst rfl li fi ?_;conv=>whnf
 refine I8 ?_
 refine ldV hst rfl lj fj ?_;conv=>whnf
 refine B7 (fun h2=>?_) (fun h2=>?_)<;>rw [h2]
 ·conv=>whnf
  refine I8 ?_
  refine ldV hst rfl li fi ?_;conv=>whnf
  refine I8 ?_
  refine ldV hst rfl lj fj ?_;conv=>whnf
  exact ⟨rfl,rfl⟩
 ·conv=>whnf
  exact ⟨rfl,rfl⟩
theorem len_S (b n:Nat) (st:St):S P 361 [.own 2 b 0 n] st fun v st'=>v=eI n∧st'=st:=by
 refine F5 [] Tryz.func361 ?_
 exact ⟨rfl,rfl⟩
theorem B3g (b:Nat) (l:List QE) (n i j:Nat) (st:St) (h:A0j st b l) (hn:n≤l.length) (hi:i<n) (hj:j<n) :
  S P 363 [.own 2 b 0 n,eI i,eI j] st fun v st'=>v=.tuple []∧A0j st' b (swp l i j)∧∀ c,c≠b→st' c=st c:=by
 obtain ⟨f,hst,hf⟩:=h
 refine F5 [] Tryz.func363 ?_
 have fi:f (0+(i:Int).toNat)=A2S (at_ l i):=by rw [C9y];exact hf i (by omega)
 have fj:f (0+(j:Int).toNat)=A2S (at_ l j):=by rw [C9y];exact hf j (by omega)
 have li:0+(i:Int).toNat<l.length:=by omega
 have lj:0+(j:Int).toNat<l.length:=by omega
 have ei:0+(i:Int).toNat=i:=by omega
 have ej:0+(j:Int).toNat=j:=by omega
 have hfj:G8 f (0+(i:Int).toNat) (I5 (A2S (at_ l i)) 0 (A2 (A2S (at_ l j)))) (0+(j:Int).toNat)=A2S (at_ l j):=by
  by_cases h:j=i
  ·subst h;rw [B4];rfl
  ·rw [J1 (by omega)];exact fj
 refine ⟨[13,15],[],[0,1,2,3,4,5,6,7,8,9,10,11,12,13,14,15],by kernel_rfl,?_⟩;conv=>whnf
 refine I8 ?_
 refine ldV hst rfl lj fj ?_;conv=>whnf
 refine I8 ?_
 refine ldV hst rfl li fi ?_;conv=>whnf
 refine I8 ?_
 refine stV hst rfl li fi (by rfl) ?_;conv=>whnf
 refine I8 ?_
 refine stV (v:=A2S (at_ l j)) (A0 ..) rfl lj hfj (by rfl) ?_;conv=>whnf
 refine ⟨rfl,⟨_,by rw [A0,B0v],fun k hk=>?_⟩,fun c hc=>by rw [A5 hc,A5 hc]⟩
 rw [B0v] at hk
 rw [A4l (by omega) (by omega)]
 by_cases h1:k=j
 ·subst h1
  rw [if_pos rfl,ej,B4];rfl
 ·rw [if_neg h1,J1 (by omega)]
  by_cases h2:k=i
  ·subst h2
   rw [if_pos rfl,ei,B4];rfl
  ·rw [if_neg h2,J1 (by omega)];exact hf k hk
def A1E (st:St) (q:Nat) (sv:AV):Prop:=∃ f,st q=some ⟨315,1,1,f⟩∧f 0=.agg [sv]
abbrev hI (q:Nat):AV:=.iface 318 (.optr 1 q 0 0)
theorem A1E.frame {st st':St} {q b:Nat} {sv:AV} (h:A1E st q sv) (hqb:q≠b) (hf:∀ c,c≠b→st' c=st c):A1E st' q sv:=by
 obtain ⟨f,h1,h2⟩:=h
 exact ⟨f,by rw [hf q hqb];exact h1,h2⟩
theorem C6B (j:Nat) (hj:j<4611686018427387904):IntKind.i64.wrap ((IntKind.i64.wrap ((j:Int) - 1)).tdiv 2)=((O3 j:Nat):Int):=by
 rw [A6 (x:=(j:Int) - 1) (by omega) (by omega)]
 unfold O3
 rcases D0K j with e | e
 ·subst e;rfl
 ·rw [D0u (by omega),A6 (by omega) (by omega)];omega
theorem C2q (q b:Nat) (l:List QE) (j:Nat) (st:St) (hq:A1E st q (.own 2 b 0 l.length)) (hqb:q≠b) (he:A0j st b l) (hr:Ab.Rise l l.length j) (hj:j<l.length) (hl:l.length<4611686018427387904) :
  S P 290 [hI q,eI j] st fun v st'=>v=.tuple []∧∃ l',l'.Perm l∧A2K l' l.length∧A0j st' b l'∧∀ c,c≠b→st' c=st c:=by
 refine F5 [] Tryz.func290 ?_
 refine ⟨[0,1],fun m vs st'=>∃ (j:Nat) (l':List QE),l'.Perm l∧A0j st' b l'∧(∀ c,c≠b→st' c=st c)∧Ab.Rise l' l.length j∧j<l.length∧m=j∧vs=[hI q,eI j],?_,?_⟩
 ·conv=>whnf
  exact ⟨_,j,l,List.Perm.refl _,he,fun c _=>rfl,hr,hj,rfl,rfl⟩
 ·clear hr hj he
  rintro j vs st' ⟨_,l',hp,he,hfr,hr,hj,rfl,rfl⟩
  have hlen:l'.length=l.length:=hp.length_eq
  obtain ⟨f,hqs,hq0⟩:=hq.frame hqb hfr
  have hpj:O3 j≤j:=by unfold O3;omega
  conv=>whnf
  rw [C6B j (by omega)]
  refine B7 (fun h1=>?_) (fun h1=>?_)<;>rw [h1]
  ·have:j=0:=by
    have:=C9j h1
    unfold O3 at this;omega
   conv=>whnf
   exact ⟨rfl,l',hp,hr.done (.inl this),he,hfr⟩
  ·have hj0:0<j:=by
    rcases D0K j with e | e
    ·subst e;cases h1
    ·exact e
   conv=>whnf
   refine K9 hqs hq0 ?_
   refine J0 (A7j b l' l.length j (O3 j) _ he (by omega) (by omega) (by omega)) ?_
   refine B7 (fun h2=>?_) (fun h2=>?_)<;>rw [h2]
   ·conv=>whnf
    exact ⟨rfl,l',hp,hr.done (.inr (by have:=h2;simp only [C9F] at this;exact this)),he,hfr⟩
   ·have h2':D0 (at_ l' j) (at_ l' (O3 j))=true:=by have:=h2;simp only [D0q] at this;exact this
    have hlt:O3 j<j:=by unfold O3;omega
    conv=>whnf
    refine K9 hqs hq0 ?_
    refine call (B3g b l' l.length (O3 j) j _ he (by omega) (by omega) (by omega)) (fun v st'' hv=>?_)
    obtain ⟨rfl,he',hfr'⟩:=hv
    conv=>whnf
    refine I9 ?_
    exact ⟨O3 j,hlt,O3 j,swp l' (O3 j) j,(A7Y (by omega) (by omega)).trans hp,he',fun c hc=>(hfr' c hc).trans (hfr c hc),hr.step (by omega) hj hj0 h2',by omega,rfl,rfl⟩
theorem j1W (i:Nat) (hi:i<2305843009213693952):IntKind.i64.wrap (IntKind.i64.wrap (2 * (i:Int))+1)=((2 * i+1:Nat):Int):=by
 rw [A6 (x:=2 * (i:Int)) (by omega) (by omega),A6 (by omega) (by omega)];omega
theorem B9r (q b:Nat) (l:List QE) (n m:Nat) (st:St) (hq:A1E st q (.own 2 b 0 n)) (hqb:q≠b) (he:A0j st b l) (hs:Ab.Sink l m 0) (hmn:m≤n) (hn:n≤l.length) (hl:l.length<2305843009213693952) :
  S P 291 [hI q,eI 0,eI m] st fun v st'=>(∃ x,v=.bool x)∧∃ l',l'.Perm l∧(∀ k,m≤k→at_ l' k=at_ l k)∧A2K l' m∧A0j st' b l'∧∀ c,c≠b→st' c=st c:=by
 refine F5 [] Tryz.func291 ?_
 refine ⟨[0,1,2,7],fun t vs st'=>∃ (i:Nat) (l':List QE),l'.Perm l∧(∀ k,m≤k→at_ l' k=at_ l k)∧A0j st' b l'∧(∀ c,c≠b→st' c=st c)∧Ab.Sink l' m i∧i≤l.length∧t=l.length - i∧vs=[hI q,eI 0,eI m,eI i],?_,?_⟩
 ·conv=>whnf
  exact ⟨_,0,l,List.Perm.refl _,fun _ _=>rfl,he,fun c _=>rfl,hs,C9v _,rfl,rfl⟩
 ·clear hs he
  rintro t vs st' ⟨i,l',hp,hk,he,hfr,hs,hi,rfl,rfl⟩
  have hlen:l'.length=l.length:=hp.length_eq
  obtain ⟨f,hqs,hq0⟩:=hq.frame hqb hfr
  have kid:∀ c,0<c→(O3 c=i↔c=2 * i+1∨c=2 * i+2):=fun c hc=>by unfold O3;omega
  conv=>whnf
  rw [j1W i (by omega)]
  refine B7 (fun h1=>?_) (fun h1=>?_)<;>rw [h1]<;>simp only [C9n,C9m] at h1
  ·conv=>whnf
   exact ⟨⟨_,rfl⟩,l',hp,hk,hs.done (fun c hc0 hcm hpc=>by have:=(kid c hc0).1 hpc;omega),he,hfr⟩
  have him:2 * i+1<m:=by omega
  conv=>whnf
  have w2:IntKind.i64.wrap (((2 * i+1:Nat):Int)+1)=((2 * i+2:Nat):Int):=by rw [A6 (by omega) (by omega)];omega
  rw [w2]
  -- behind the choice of a child
  have tail:∀ (j:Nat),0<j→j<m→O3 j=i→(∀ c,0<c→c<m→O3 c=i→Nah l' c j)→∀ (K:KK),(∀ v st'' l'',v=.tuple []→l''.Perm l→(∀ k,m≤k→at_ l'' k=at_ l k)→A0j st'' b l''→(∀ c,c≠b→st'' c=st c)→D0 (at_ l' j) (at_ l' i)=true→Ab.Sink l'' m j→K v st'')→D0 (at_ l' j) (at_ l' i)=true→U8 P 363 [.own 2 b 0 n,eI i,eI j] st' K:=by
   intro j hj0 hjm hpj hbest K hK hpr
   have hij:i<j:=by rw [←hpj];unfold O3;omega
   refine call (B3g b l' n i j _ he (by omega) (by omega) (by omega)) (fun v st'' hv=>?_)
   obtain ⟨rfl,he',hfr'⟩:=hv
   refine hK _ _ (swp l' i j) rfl ((A7Y (by omega) (by omega)).trans hp) (fun k hkm=>?_) he' (fun c hc=>(hfr' c hc).trans (hfr c hc)) hpr (hs.step (by omega) hjm hj0 hpj hpr hbest)
   rw [A4l (by omega) (by omega),if_neg (by omega),if_neg (by omega)];exact hk k hkm
  refine B7 (fun h3=>?_) (fun h3=>?_)<;>rw [h3]<;>simp only [C9n,C9m] at h3
  ·conv=>whnf
   refine K9 hqs hq0 ?_
   refine J0 (A7j b l' n (2 * i+2) (2 * i+1) _ he (by omega) (by omega) (by omega)) ?_
   refine B7 (fun h4=>?_) (fun h4=>?_)<;>rw [h4]
   ·have hbest:∀ c,0<c→c<m→O3 c=i→Nah l' c (2 * i+2):=fun c hc0 hcm hpc=>by
     rcases (kid c hc0).1 hpc with e | e
     ·subst e;exact P2 h4
     ·subst e;exact A0b _
    conv=>whnf
    refine K9 hqs hq0 ?_
    refine J0 (A7j b l' n (2 * i+2) i _ he (by omega) (by omega) (by omega)) ?_
    refine B7 (fun h5=>?_) (fun h5=>?_)<;>rw [h5]
    ·conv=>whnf
     exact ⟨⟨_,rfl⟩,l',hp,hk,hs.done (fun c hc0 hcm hpc=>Q2 (hbest c hc0 hcm hpc) (show Nah l' (2 * i+2) i by have:=h5;simp only [C9F] at this;exact this)),he,hfr⟩
    ·conv=>whnf
     refine K9 hqs hq0 ?_
     refine tail (2 * i+2) (by omega) (by omega) ((kid _ (by omega)).2 (.inr rfl)) hbest _ (fun v st'' l'' hv hp' hk' he' hfr' hpr hs'=>?_) (by have:=h5;simp only [D0q] at this;exact this)
     subst hv;conv=>whnf
     refine I9 ?_
     exact ⟨l.length - (2 * i+2),by omega,2 * i+2,l'',hp',hk',he',hfr',hs',by omega,rfl,rfl⟩
   ·have hbest:∀ c,0<c→c<m→O3 c=i→Nah l' c (2 * i+1):=fun c hc0 hcm hpc=>by
     rcases (kid c hc0).1 hpc with e | e
     ·subst e;exact A0b _
     ·subst e;exact h4
    conv=>whnf
    refine K9 hqs hq0 ?_
    refine J0 (A7j b l' n (2 * i+1) i _ he (by omega) (by omega) (by omega)) ?_
    refine B7 (fun h5=>?_) (fun h5=>?_)<;>rw [h5]
    ·conv=>whnf
     exact ⟨⟨_,rfl⟩,l',hp,hk,hs.done (fun c hc0 hcm hpc=>Q2 (hbest c hc0 hcm hpc) (show Nah l' (2 * i+1) i by have:=h5;simp only [C9F] at this;exact this)),he,hfr⟩
    ·conv=>whnf
     refine K9 hqs hq0 ?_
     refine tail (2 * i+1) (by omega) (by omega) ((kid _ (by omega)).2 (.inl rfl)) hbest _ (fun v st'' l'' hv hp' hk' he' hfr' hpr hs'=>?_) (by have:=h5;simp only [D0q] at this;exact this)
     subst hv;conv=>whnf
     refine I9 ?_
     exact ⟨l.length - (2 * i+1),by omega,2 * i+1,l'',hp',hk',he',hfr',hs',by omega,rfl,rfl⟩
  ·have hbest:∀ c,0<c→c<m→O3 c=i→Nah l' c (2 * i+1):=fun c hc0 hcm hpc=>by
    rcases (kid c hc0).1 hpc with e | e
    ·subst e;exact A0b _
    ·omega
   conv=>whnf
   refine K9 hqs hq0 ?_
   refine J0 (A7j b l' n (2 * i+1) i _ he (by omega) (by omega) (by omega)) ?_
   refine B7 (fun h5=>?_) (fun h5=>?_)<;>rw [h5]
   ·conv=>whnf
    exact ⟨⟨_,rfl⟩,l',hp,hk,hs.done (fun c hc0 hcm hpc=>Q2 (hbest c hc0 hcm hpc) (show Nah l' (2 * i+1) i by have:=h5;simp only [C9F] at this;exact this)),he,hfr⟩
   ·conv=>whnf
    refine K9 hqs hq0 ?_
    refine tail (2 * i+1) (by omega) (by omega) ((kid _ (by omega)).2 (.inl rfl)) hbest _ (fun v st'' l'' hv hp' hk' he' hfr' hpr hs'=>?_) (by have:=h5;simp only [D0q] at this;exact this)
    subst hv;conv=>whnf
    refine I9 ?_
    exact ⟨l.length - (2 * i+1),by omega,2 * i+1,l'',hp',hk',he',hfr',hs',by omega,rfl,rfl⟩
theorem A0j.frame {st st':St} {b c:Nat} {l:List QE} (h:A0j st b l) (hc:c≠b) (hf:∀ a,a≠c→st' a=st a):A0j st' b l:=by
 obtain ⟨f,h1,h2⟩:=h
 exact ⟨f,by rw [hf b (fun e=>hc e.symm)];exact h1,h2⟩
theorem C1b (q b:Nat) (l:List QE) (n:Nat) (st:St) (hq:A1E st q (.own 2 b 0 (n+1))) (hqb:q≠b) (he:A0j st b l) (hn:n<l.length) (hl:l.length<2305843009213693952) :
  S P 364 [.optr 1 q 0 0] st fun v st'=>v=.iface 320 (A2S (at_ l n))∧A1E st' q (.own 2 b 0 n)∧∀ c,c≠q→st' c=st c:=by
 obtain ⟨fq,hqs,hq0⟩:=hq
 obtain ⟨f,hst,hf⟩:=he
 refine F5 [4] Tryz.func364 ?_
 refine K9 hqs hq0 ?_
 have w:IntKind.i64.wrap (((n+1:Nat):Int) - 1)=(n:Int):=by rw [A6 (by omega) (by omega)];omega
 rw [w]
 refine K9 hqs hq0 ?_
 refine I8 ?_
 refine ldV hst rfl (by omega) (v:=A2S (at_ l n)) (by rw [show 0+(n:Int).toNat=n by omega];exact hf n hn) ?_;conv=>whnf
 refine K9 hqs hq0 ?_
 refine ⟨rfl,⟨by omega,by omega,by omega⟩,.inl rfl,?_⟩;conv=>whnf
 refine stW hqs hq0 ?_
 refine ⟨rfl,⟨_,A0 ..,?_⟩,fun c hc=>by rw [A5 hc]⟩
 rw [B4]
 show AV.agg [AV.own 2 b _ _]=_
 congr 3<;>simp
theorem B9h (q:Nat) (sv:AV) (l:List QE) (x:QE) (st st0:St) (hq:A1E st q sv) (h0:st0 q=none) (hsup:E9 st0 st) (hl:l.length<2305843009213)
  (hs:(l=[]∧sv=.emp)∨∃ b,q≠b∧st0 b=none∧sv=.own 2 b 0 l.length∧A0j st b l) :
  S P 365 [.optr 1 q 0 0,.iface 320 (A2S x)] st fun v st'=>v=.tuple []∧∃ b,q≠b∧st0 b=none∧A1E st' q (.own 2 b 0 (l.length+1))∧A0j st' b (l++[x])∧E9 st0 st':=by
 obtain ⟨fq,hqs,hq0⟩:=hq
 refine F5 [] Tryz.func365 ?_
 intro c hc
 have hcq:q≠c:=fun e=>by subst e;rw [hqs] at hc;cases hc
 conv=>whnf
 refine stW (A0 ..) rfl ?_
 refine ⟨[6,8],[],[0,1,2,3,4,5,6,7,8],by kernel_rfl,?_⟩;conv=>whnf
 refine K9 (by rw [A5 hcq,A5 hcq];exact hqs) hq0 ?_
 have hc0:st0 c=none:=hsup.none hc
 rcases hs with ⟨rfl,rfl⟩ | ⟨b,hqb,hb0,rfl,f,hst,hf⟩
 ·conv=>whnf
  refine K9 (A0 ..) rfl ?_
  refine ⟨_,⟨rfl,rfl⟩,?_⟩;conv=>whnf
  refine apE rfl rfl rfl rfl (A7U ..) (by show 1 * 16≤_;omega) (fun h=>absurd h (by omega)) (fun _ b hb=>?_)
  have hbq:b≠q:=fun e=>by subst e;rw [A5 hcq,A5 hcq,hqs] at hb;cases hb
  have hbc:b≠c:=fun e=>by subst e;rw [A0] at hb;cases hb
  have hb':st b=none:=by rw [A5 hbc,A5 hbc] at hb;exact hb
  conv=>whnf
  refine stW (by rw [A5 hbq.symm,A5 hcq,A5 hcq];exact hqs) hq0 ?_
  refine ⟨rfl,b,hbq.symm,hsup.none hb',⟨_,A0 ..,by rw [B4];rfl⟩,⟨_,by rw [A5 hbq,A0];rfl,fun k hk=>?_⟩,?_⟩
  ·have:k=0:=by simpa using hk
   subst this;rfl
  ·exact (((hsup.over hc0).over hc0).over (hsup.none hb')).over h0
 ·have hbc:b≠c:=fun e=>by subst e;rw [hst] at hc;cases hc
  conv=>whnf
  refine K9 (A0 ..) rfl ?_
  refine ⟨_,⟨rfl,rfl⟩,?_⟩;conv=>whnf
  refine apO (q:=C1z) (n:=l.length) rfl rfl rfl rfl (A7U ..) (by rw [A5 hbc,A5 hbc];exact hst) rfl rfl rfl (by show (l.length+1) * 16≤_;omega) (fun h=>absurd h (by omega)) (fun _ b' hb'=>?_)
  have hb'q:b'≠q:=fun e=>by
   subst e
   rcases hb' with e | e
   ·exact hqb e
   ·rw [A5 hcq,A5 hcq,hqs] at e;cases e
  have hb'0:st0 b'=none:=by
   rcases hb' with rfl | e
   ·exact hb0
   ·by_cases hbc':b'=c
    ·subst hbc';exact hc0
    ·rw [A5 hbc',A5 hbc'] at e;exact hsup.none e
  conv=>whnf
  refine stW (by rw [A5 hb'q.symm];unfold del;rw [if_neg hqb,A5 hcq,A5 hcq];exact hqs) hq0 ?_
  refine ⟨rfl,b',hb'q.symm,hb'0,⟨_,A0 ..,by rw [B4];rfl⟩,⟨_,by rw [A5 hb'q,A0,C9E];rfl,fun k hk=>?_⟩,?_⟩
  ·rw [C9E] at hk
   simp only [C9G,D0B] at hk
   unfold at_
   by_cases hkl:k<l.length
   ·simp only [hkl,if_true]
    rw [hf k hkl,C9i,C9z hkl,←C9i]
   ·have:k=l.length:=by omega
    subst this
    simp only [Nat.lt_irrefl,D1x,Nat.sub_self]
    rw [show (l++[x]).getD l.length default=x by simp [C9i]]
    rfl
  ·exact ((((hsup.over hc0).over hc0).del hb0).over hb'0).over h0
theorem B9s (q:Nat) (sv:AV) (l:List QE) (x:QE) (st st0:St) (hq:A1E st q sv) (h0:st0 q=none) (hsup:E9 st0 st) (hl:l.length<2305843009213) (hh:A2K l l.length)
  (hs:(l=[]∧sv=.emp)∨∃ b,q≠b∧st0 b=none∧sv=.own 2 b 0 l.length∧A0j st b l) :
  S P 266 [hI q,.iface 320 (A2S x)] st fun v st'=>v=.tuple []∧∃ b l',q≠b∧st0 b=none∧l'.Perm (l++[x])∧A2K l' l'.length∧A1E st' q (.own 2 b 0 l'.length)∧A0j st' b l'∧E9 st0 st':=by
 refine F5 [] Tryz.func266 ?_
 refine call (B9h q sv l x st st0 hq h0 hsup hl hs) (fun v st' hv=>?_)
 obtain ⟨rfl,b,hqb,hb0,⟨fq,hqs,hq0⟩,he,hsup'⟩:=hv
 conv=>whnf
 refine K9 hqs hq0 ?_
 refine J0 (len_S b (l.length+1) _) ?_
 have w:IntKind.i64.wrap (((l.length+1:Nat):Int) - 1)=(l.length:Int):=by rw [A6 (by omega) (by omega)];omega
 rw [w]
 have e1:(l++[x]).length=l.length+1:=by simp
 have hr:Ab.Rise (l++[x]) (l++[x]).length l.length:=by rw [e1];exact hh.up x rfl
 refine call (C2q q b (l++[x]) l.length _ (by rw [e1];exact ⟨fq,hqs,hq0⟩) hqb he hr (by omega) (by omega)) (fun v st'' hv=>?_)
 obtain ⟨rfl,l',hp,hh',he',hfr⟩:=hv
 conv=>whnf
 have el:l'.length=(l++[x]).length:=hp.length_eq
 refine ⟨rfl,b,l',hqb,hb0,hp,by rw [el];exact hh',?_,he',fun c y hc=>?_⟩
 ·rw [el,e1];exact A1E.frame ⟨fq,hqs,hq0⟩ hqb hfr
 ·rw [hfr c (fun e=>by subst e;rw [hb0] at hc;cases hc)];exact hsup' c y hc
theorem B5V {l l':List QE} {m:Nat} (hm:m<l.length) (hp:l'.Perm l) (hk:∀ k,m≤k→at_ l' k=at_ (swp l 0 m) k):(at_ l 0::l'.take m).Perm (l.take (m+1)):=by
 have hlen:l'.length=l.length:=hp.length_eq
 have e1:l'.drop m=at_ l 0::l.drop (m+1):=by
  refine List.ext_getElem? fun i=>?_
  rw [D0I]
  have hi:=hk (m+i) (by omega)
  rw [A4l (by omega) hm] at hi
  rcases D0D (m+i) l.length with h | h
  ·have a1:l'[m+i]?=some (at_ l' (m+i)):=by
    unfold at_;rw [C9i,C9p (by omega)];rfl
   rw [a1,hi]
   cases i with
   | zero=>simp
   | succ i =>
    rw [if_neg (by omega),if_neg (by omega),D1L,D0I]
    unfold at_
    rw [C9i,show m+(i+1)=m+1+i by omega,C9p (by omega)];rfl
  ·rw [D1A (by omega)]
   cases i with
   | zero=>omega
   | succ i=>rw [D1L,D0I,D1A (by omega)]
 have h1:(l'.take m++(at_ l 0::l.drop (m+1))).Perm (l.take (m+1)++l.drop (m+1)):=by
  rw [←e1,D1l,D1l];exact hp
 have h2:((at_ l 0::l'.take m)++l.drop (m+1)).Perm (l.take (m+1)++l.drop (m+1)):=by
  refine List.Perm.trans ?_ h1
  exact List.perm_middle.symm
 exact (List.perm_append_right_iff _).1 h2
theorem C1g (q b:Nat) (l:List QE) (n:Nat) (st:St) (hq:A1E st q (.own 2 b 0 (n+1))) (hqb:q≠b) (he:A0j st b l) (hh:A2K l (n+1)) (hn:n<l.length) (hl:l.length<2305843009213693952) :
  S P 267 [hI q] st fun v st'=>v=.iface 320 (A2S (at_ l 0))∧∃ l',l'.length=l.length∧(at_ l 0::l'.take n).Perm (l.take (n+1))∧A2K l' n∧A1E st' q (.own 2 b 0 n)∧A0j st' b l'∧∀ c,c≠q→c≠b→st' c=st c:=by
 obtain ⟨fq,hqs,hq0⟩:=hq
 refine F5 [] Tryz.func267 ?_
 refine K9 hqs hq0 ?_
 refine J0 (len_S b (n+1) _) ?_
 have w:IntKind.i64.wrap (((n+1:Nat):Int) - 1)=(n:Int):=by rw [A6 (by omega) (by omega)];omega
 rw [w]
 refine K9 hqs hq0 ?_
 refine call (B3g b l (n+1) 0 n _ he (by omega) (by omega) (by omega)) (fun v st1 hv=>?_)
 obtain ⟨rfl,he1,hfr1⟩:=hv
 have hq1:A1E st1 q (.own 2 b 0 (n+1)):=A1E.frame ⟨fq,hqs,hq0⟩ hqb hfr1
 have hd:Ab.Sink (swp l 0 n) n 0:=hh.down hn
 have hsl:(swp l 0 n).length=l.length:=B0v l 0 n
 conv=>whnf
 refine call (B9r q b (swp l 0 n) (n+1) n _ hq1 hqb he1 hd (by omega) (by omega) (by omega)) (fun v st2 hv=>?_)
 obtain ⟨⟨y,rfl⟩,l',hp,hk,hh',he2,hfr2⟩:=hv
 have hl':l'.length=l.length:=hp.length_eq.trans hsl
 have hq2:A1E st2 q (.own 2 b 0 (n+1)):=hq1.frame hqb hfr2
 have htop:at_ l' n=at_ l 0:=by rw [hk n (C9q _),A4l (by omega) hn,if_pos rfl]
 conv=>whnf
 refine call (C1b q b l' n _ hq2 hqb he2 (by omega) (by omega)) (fun v st3 hv=>?_)
 obtain ⟨rfl,hq3,hfr3⟩:=hv
 rw [htop];conv=>whnf
 refine ⟨rfl,l',hl',B5V hn (hp.trans (A7Y (by omega) hn)) hk,hh',hq3,he2.frame hqb hfr3,fun c h1 h2=>by rw [hfr3 c h1,hfr2 c h2,hfr1 c h2]⟩
structure T8 (st0:St) (q:Nat) (fresh:Bool) (es:List QE) (st:St):Prop where
 new:st0 q=none
 sup:E9 st0 st
 has:∃ sv,A1E st q sv∧((es=[]∧sv=.emp)∨∃ b l n,q≠b∧st0 b=none∧sv=.own 2 b 0 n∧n≤l.length∧l.length<2305843009213∧A2K l n∧A0j st b l∧(l.take n).Perm es∧(fresh=true→n=l.length))
theorem T8.perm {st0 st:St} {q:Nat} {f:Bool} {es es':List QE} (h:T8 st0 q f es st) (hp:es.Perm es'):T8 st0 q f es' st:=by
 obtain ⟨h1,h2,sv,hq,h3⟩:=h
 refine ⟨h1,h2,sv,hq,?_⟩
 rcases h3 with ⟨rfl,hs⟩ | ⟨b,l,n,a1,a2,a3,a4,a5,a6,a7,a8,a9⟩
 ·exact .inl ⟨List.Perm.eq_nil hp.symm,hs⟩
 ·exact .inr ⟨b,l,n,a1,a2,a3,a4,a5,a6,a7,a8.trans hp,a9⟩
theorem A7D (st:St):S P 226 [] st fun v st'=>∃ q,v=.optr 1 q 0 0∧T8 st q true [] st':=by
 refine F5 [] Tryz.func226 ?_
 intro q hq;conv=>whnf
 exact ⟨q,rfl,hq,(E9.refl st).upd hq,.emp,⟨_,A0 ..,rfl⟩,.inl ⟨rfl,rfl⟩⟩
theorem A4O (st0:St) (q:Nat) (es:List QE) (r k:Int) (st:St) (h:T8 st0 q true es st) (hl:es.length<2305843009212):S P 228 [.optr 1 q 0 0,eI r,eI k] st fun v st'=>v=.tuple []∧T8 st0 q true (es++[(r,k)]) st':=by
 obtain ⟨h1,h2,sv,hq,h3⟩:=h
 refine F5 [] Tryz.func228 ?_
 have hex:∃ l:List QE,l.Perm es∧A2K l l.length∧((l=[]∧sv=.emp)∨∃ b,q≠b∧st0 b=none∧sv=.own 2 b 0 l.length∧A0j st b l):=by
  rcases h3 with ⟨rfl,hs⟩ | ⟨b,l,n,a1,a2,a3,a4,a5,a6,a7,a8,a9⟩
  ·exact ⟨[],List.Perm.refl _,fun c h0 hc=>absurd hc (by simp),.inl ⟨rfl,hs⟩⟩
  ·have e:=a9 rfl
   subst e
   rw [C9u] at a8
   exact ⟨l,a8,a6,.inr ⟨b,a1,a2,a3,a7⟩⟩
 obtain ⟨l,hp,hh,hs⟩:=hex
 have hll:l.length=es.length:=hp.length_eq
 refine call (B9s q sv l (r,k) st st0 hq h1 h2 (by omega) hh hs) (fun v st' hv=>?_)
 obtain ⟨rfl,b,l',hqb,hb0,hp',hh',hq',he',hsup'⟩:=hv
 have hl':l'.length=l.length+1:=by rw [hp'.length_eq];simp
 conv=>whnf
 exact ⟨rfl,h1,hsup',_,hq',.inr ⟨b,l',l'.length,hqb,hb0,rfl,C9q _,by omega,hh',he',by rw [C9u];exact hp'.trans (hp.append_right _),fun _=>rfl⟩⟩
theorem A5E (st0:St) (q:Nat) (f:Bool) (es:List QE) (st:St) (h:T8 st0 q f es st):S P 229 [.optr 1 q 0 0] st fun v st'=>v=eI es.length∧st'=st:=by
 obtain ⟨h1,h2,sv,⟨fq,hqs,hq0⟩,h3⟩:=h
 refine F5 [] Tryz.func229 ?_
 rcases h3 with ⟨rfl,rfl⟩ | ⟨b,l,n,a1,a2,rfl,a4,a5,a6,a7,a8,a9⟩
 ·refine K9 hqs hq0 ?_
  exact ⟨rfl,rfl⟩
 ·refine K9 hqs hq0 ?_
  refine ⟨?_,rfl⟩
  have:es.length=n:=by rw [←a8.length_eq,C9D];omega
  rw [this];rfl
theorem B9O (st0:St) (q:Nat) (f:Bool) (st:St) (h:T8 st0 q f [] st):S P 230 [.optr 1 q 0 0] st fun v st'=>v=.tuple [eI 0,eI 0,.bool false]∧st'=st:=by
 obtain ⟨h1,h2,sv,⟨fq,hqs,hq0⟩,h3⟩:=h
 refine F5 [] Tryz.func230 ?_
 rcases h3 with ⟨_,rfl⟩ | ⟨b,l,n,a1,a2,rfl,a4,a5,a6,a7,a8,a9⟩
 ·refine K9 hqs hq0 ?_
  exact ⟨rfl,rfl⟩
 ·have e:n=0:=by
   have:=a8.length_eq
   rw [C9D,D0B] at this;omega
  subst e
  refine K9 hqs hq0 ?_
  exact ⟨rfl,rfl⟩
theorem A5F (st0:St) (q:Nat) (f:Bool) (x:QE) (es:List QE) (st:St) (h:T8 st0 q f (x::es) st) (htop:∀ y∈es,D0 y x=false):S P 230 [.optr 1 q 0 0] st fun v st'=>v=.tuple [eI x.1,eI x.2,.bool true]∧T8 st0 q false es st':=by
 obtain ⟨h1,h2,sv,hq,h3⟩:=h
 rcases h3 with ⟨h,_⟩ | ⟨b,l,n,a1,a2,rfl,a4,a5,a6,a7,a8,a9⟩
 ·cases h
 have hn:n=es.length+1:=by
  have:=a8.length_eq
  rw [C9D,C9G] at this;omega
 subst hn
 have hx:at_ l 0=x:=by
  have m0:at_ l 0∈x::es:=by
   refine a8.subset ?_
   have:(l.take (es.length+1)).getD 0 default=at_ l 0:=by
    unfold at_;rw [C9i,C9i,C9w (by omega)]
   rw [←this];exact A7 (by rw [C9D];omega)
  have hmem:x∈l.take (es.length+1):=a8.symm.subset (C9C ..)
  obtain ⟨k,hk,he⟩:=F2 hmem
  rw [C9D] at hk
  have hxk:x=at_ l k:=by
   rw [he];unfold at_;rw [C9i,C9i,C9w (by omega)]
  have t1:D0 x (at_ l 0)=false:=by rw [hxk];exact a6.top k (by omega)
  rcases D0M.1 m0 with e | e
  ·exact e
  ·exact A5D (htop _ e) t1
 have hq':=hq
 obtain ⟨fq,hqs,hq0⟩:=hq
 refine F5 [] Tryz.func230 ?_
 refine K9 hqs hq0 ?_
 refine call (C1g q b l es.length st hq' a1 a7 a6 (by omega) (by omega)) (fun v st' hv=>?_)
 obtain ⟨rfl,l',hl',hp',hh',hq3,he3,hfr⟩:=hv
 rw [hx] at hp' ⊢
 have hsup':E9 st0 st':=fun c y hc=>by
  rw [hfr c (fun e=>by subst e;rw [h1] at hc;cases hc) (fun e=>by subst e;rw [a2] at hc;cases hc)];exact h2 c y hc
 conv=>whnf
 intro c hc;conv=>whnf
 refine stW (A0 ..) rfl ?_
 refine ⟨[],[],[0,1,2,3,4,5,6],by kernel_rfl,?_⟩;conv=>whnf
 refine K9 (A0 ..) rfl ?_
 refine K9 (A0 ..) rfl ?_
 obtain ⟨fq',hqs',hq0'⟩:=hq3
 obtain ⟨fe,hes,hef⟩:=he3
 have hcq:q≠c:=fun e=>by subst e;rw [hqs'] at hc;cases hc
 have hcb:b≠c:=fun e=>by subst e;rw [hes] at hc;cases hc
 have hc0:st0 c=none:=hsup'.none hc
 refine ⟨rfl,h1,(hsup'.over hc0).over hc0,_,⟨fq',by rw [A5 hcq,A5 hcq];exact hqs',hq0'⟩,.inr ⟨b,l',es.length,a1,a2,rfl,by omega,by omega,hh',⟨fe,by rw [A5 hcb,A5 hcb];exact hes,hef⟩,?_,fun e=>by cases e⟩⟩
 exact (List.perm_cons x).1 (hp'.trans a8)
end Go.Proofs.YtaapofnkmpiknaaGreat
