/- Part 20 of the proof: contracts of the functions that the law reaches -/
import Derived.Test.YtbajhapmlfbelaaGreatPr19
set_option maxRecDepth 100000
set_option linter.unusedVariables false
set_option linter.unusedSimpArgs false
namespace Go.Proofs.YtbajhapmlfbelaaGreat
open Go Go.Ab
attribute [local irreducible] upd del
def A7a (p:A9):Bool :=
 (((p.kind==1)||(p.kind==7)||(p.kind==3))||p.rate==0)&&((p.kind==2)||(p.kind==4)||p.amount==0)&&((p.kind==3)||(p.buy==0&&p.get==0))&&((p.kind==4)||p.parts.length==0)&&((p.kind==5)||(p.kind==6)||p.tiers.length==0)&&(((p.kind != 4)&&(p.kind != 7))||(p.scope.skus.length+p.scope.cats.length==0))&&((p.kind != 7)||!p.closes)
theorem A2g (n:Nat):((n:Int)==0)=(n==0):=by
 rw [Bool.eq_iff_iff,beq_iff_eq,beq_iff_eq];omega
set_option maxHeartbeats 4000000 in
theorem B8O (p:A9) (hk:1≤p.kind∧p.kind≤7) (hs1:p.scope.skus.length≤20) (hs2:p.scope.cats.length≤20) (st:St):S P 315 [B2s p] st fun v st'=>v=.bool (A7a p)∧st'=st:=by
 refine A8 [1] B9 mixed Tryz.func315 (by rfl) rfl rfl rfl ?_
 obtain ⟨id,kind,prio,group,code,closes,scope,least,rate,amount,buy,get,parts,tiers⟩:=p
 simp only at *
 have wl:IntKind.i64.wrap ((scope.skus.length:Int)+(scope.cats.length:Int))=((scope.skus.length+scope.cats.length:Nat):Int):=by rw [A7 (by omega) (by omega)];omega
 rcases (by omega:kind=1∨kind=2∨kind=3∨kind=4∨kind=5∨kind=6∨kind=7) with rfl | rfl | rfl | rfl | rfl | rfl | rfl
 all_goals repeat' ((conv=>whnf);first  | (refine C0 (fun h=>?_) (fun h=>?_)<;>rw [h]))
 all_goals (conv=>whnf)
 all_goals (refine ⟨?_,rfl⟩;show AV.bool _=AV.bool _;congr 1)
 all_goals (try rw [wl] at *)
 all_goals (simp only [A2g] at *;simp [A7a, *])
theorem D3 {P:Program} {f:FuncId} {args:List AV} {st:St} {v:AV} (h:S P f args st fun v' st'=>v'=v∧st'=st):A1c P f args st fun v' st'=>v'=v∧st'=st:=call h fun _ _ h=>h
structure M9 (p:A9):Prop where
 scope:A5P p.scope
 parts:B2c p.parts
def A5f (p:A9):Bool :=
 if p.kind=1 then A6m p else if p.kind=2 then A6k p else if p.kind=3 then A6l p else if p.kind=4 then A4M p else if p.kind=5 then U0 p.tiers else if p.kind=6 then U0 p.tiers else A6m p
def F6 (p:A9):Bool:=decide (p.kind≥1)&&decide (p.kind<8)&&A5e p&&A7a p&&A5f p
theorem A9j {s:Q8} (h:V8 s=true):s.skus.length≤20∧s.cats.length≤20:=by
 simp only [V8,Bool.and_eq_true,decide_eq_true_eq] at h
 exact ⟨h.1.1,h.2.1⟩
theorem B0r {p:A9} (h:A5e p=true):p.scope.skus.length≤20∧p.scope.cats.length≤20:=by
 simp only [A5e,Bool.and_eq_true] at h
 exact A9j h.1.2
theorem A7T (p:A9) (hp:M9 p) (st:St):S P 254 [B7 p] st fun v st'=>v=.bool (F6 p)∧st'=st:=by
 refine A8 [1,3,4] B9 mixed Tryz.func254 (by rfl) rfl rfl rfl ?_;conv=>whnf
 refine ⟨[],[],[0,1,2,3,4,5,6,7,8,9,10,11,12,13,14,15,16,17,18,19,20,21,22,23,24],by kernel_rfl,?_⟩;conv=>whnf
 refine C0 (fun h1=>?_) (fun h1=>?_)<;>rw [h1]
 case refine_2 =>
  conv=>whnf
  refine ⟨?_,rfl⟩
  simp only [F6,h1,Bool.false_and];rfl
 conv=>whnf
 refine C0 (fun h2=>?_) (fun h2=>?_)<;>rw [h2]
 case refine_2 =>
  conv=>whnf
  refine ⟨?_,rfl⟩
  simp only [F6,h1,h2,Bool.false_and,Bool.and_false];rfl
 have hk:1≤p.kind∧p.kind≤7:=by simp only [decide_eq_true_eq] at h1 h2;omega
 conv=>whnf
 refine ⟨_,D3 (C0Y p hp.scope st),?_⟩;conv=>whnf
 refine C0 (fun h3=>?_) (fun h3=>?_)
 case refine_2 =>
  rw [h3];conv=>whnf
  refine ⟨?_,rfl⟩
  simp only [F6,h3,Bool.false_and,Bool.and_false];rfl
 rw [h3]
 have hl:=B0r h3
 conv=>whnf
 refine ⟨_,D3 (B8O p hk hl.1 hl.2 st),?_⟩;conv=>whnf
 refine C0 (fun h4=>?_) (fun h4=>?_)
 case refine_2 =>
  rw [h4];conv=>whnf
  refine ⟨?_,rfl⟩
  simp only [F6,h4,Bool.false_and,Bool.and_false];rfl
 rw [h4]
 have hspec:F6 p=A5f p:=by simp only [F6,h1,h2,h3,h4,Bool.true_and]
 rw [hspec]
 suffices hcall:∀ f,f=(if p.kind=1 then 309 else if p.kind=2 then 310 else if p.kind=3 then 311 else if p.kind=4 then 312 else if p.kind=5 then 313 else if p.kind=6 then 313 else 309)→S P f [B2s p] st fun v st'=>v=.bool (A5f p)∧st'=st by
  clear hspec h1 h2 h3 h4 hl
  generalize A5f p=B at *
  clear hp
  obtain ⟨id,kind,prio,group,code,closes,scope,least,rate,amount,buy,get,parts,tiers⟩:=p
  simp only at hk hcall
  rcases (by omega:kind=1∨kind=2∨kind=3∨kind=4∨kind=5∨kind=6∨kind=7) with rfl | rfl | rfl | rfl | rfl | rfl | rfl
  all_goals (conv=>whnf)
  all_goals (refine ⟨⟨by dsimp only;omega,by dsimp only;omega⟩,?_⟩;conv=>whnf)
  all_goals (refine ⟨_,D3 (hcall _ rfl),?_⟩;conv=>whnf)
  all_goals exact ⟨rfl,rfl⟩
 rintro f rfl
 unfold A5f
 rcases (by omega:p.kind=1∨p.kind=2∨p.kind=3∨p.kind=4∨p.kind=5∨p.kind=6∨p.kind=7) with e | e | e | e | e | e | e<;>rw [e]
 ·exact B1o p st
 ·exact B6E p st
 ·exact B6G p st
 ·exact B6F p hp.parts st
 ·exact B5L p st
 ·exact B5L p st
 ·exact B1o p st
theorem B6z (s:D7) (st:St):S P 181 [eS s] st fun v st'=>v=.bool (!E7 s)∧st'=st:=by
 refine A8 [] B9 mixed Tryz.func181 (by rfl) rfl rfl rfl ?_;conv=>whnf
 refine B0 (A5u s st) ?_;conv=>whnf
 exact ⟨rfl,rfl⟩
def A0n (l:List D7):Bool:=decide ((l.length:Int)≤4)&&V7 l&&!(l.any fun s=>!E7 s)
theorem C0p (l:List D7) (hl:l.length≤Big) (st:St):S P 96 [D9 l] st fun v st'=>v=.bool (A0n l)∧st'=st:=by
 refine A8 [] B9 mixed Tryz.func96 (by rfl) rfl rfl rfl ?_
 repeat' ((conv=>whnf);first | refine B0 (A9e l hl st) ?_ | refine B0 (B7e l hl _ [] (fun s=>!E7 s) st fun x _=>B6z x st) ?_ | (refine C0 (fun h=>?_) (fun h=>?_)<;>rw [h]))
 all_goals (conv=>whnf)
 all_goals (refine ⟨?_,rfl⟩;show AV.bool _=AV.bool _;congr 1)
 all_goals (simp only [A0n, *,Bool.true_and,Bool.false_and,Bool.and_true,Bool.and_false];try rfl)
theorem B9o (p x:A9) (st:St):S P 256 [B7 x,.fptr (B7 p) 0] st fun v st'=>v=.bool (x.id.toList==p.id.toList)∧st'=st:=by
 refine A8 [2] B9 mixed Tryz.func256 (by rfl) rfl rfl rfl ?_;conv=>whnf
 exact ⟨rfl,rfl⟩
theorem A9l {α : Type} [Inhabited α] (e:Nat) (enc : α→AV) (l:List α) (i n:Nat) (f:Nat→AV) (hi:i≤l.length) (hn:n=i) (hf:∀ k,k<i→f k=enc (l.getD k default)) (st:St):B3 [.arr e n f] st [B2 e enc (l.take i)] st:=by
 subst hn
 have el:(l.take n).length=n:=by rw [List.length_take];omega
 have e2:B2 e enc (l.take n)=.arr e n (fun k=>enc ((l.take n).getD k default)):=by unfold B2;rw [el]
 rw [e2]
 refine B3.arr fun k hk=>?_
 rw [hf k hk]
 congr 1
 simp [List.getD_eq_getElem?_getD,List.getElem?_take_of_lt hk]
def R3 (l:List A9) (k:Nat) (p:A9):Bool:=F6 p&&!((l.take k).any fun x=>x.id.toList==p.id.toList)
def promosC (l:List A9):Bool:=decide ((l.length:Int)≤60)&&I2 l (R3 l)
theorem B8S (l:List A9) (hl:l.length≤Big) (hf:∀ p∈l,M9 p) (st:St):S P 175 [B2 15 B7 l] st fun v st'=>v=.bool (promosC l)∧st'=st:=by
 refine A8 [4] B9 mixed Tryz.func175 (by rfl) rfl rfl rfl ?_;conv=>whnf
 refine C0 (fun h=>?_) (fun h=>?_)<;>rw [h]<;>simp only [decide_eq_true_eq,decide_eq_false_iff_not] at h
 ·conv=>whnf
  refine ⟨?_,rfl⟩
  rw [show promosC l=false by unfold promosC;rw [decide_eq_false (by omega),Bool.false_and]];rfl
 have ht:promosC l=I2 l (R3 l):=by unfold promosC;rw [decide_eq_true (by omega),Bool.true_and]
 conv=>whnf
 refine ⟨[0,8,9,10],fun m vs st'=>∃ i:Nat,i≤l.length∧(∀ k,k<i→R3 l k (l.getD k default)=true)∧m=l.length - i∧vs=[B2 15 B7 l,B2 15 B7 l,eI l.length,eI i]∧st'=st,?_,?_⟩
 ·conv=>whnf
  exact ⟨_,0,Nat.zero_le _,fun k hk=>absurd hk (by omega),rfl,rfl,rfl⟩
 ·rintro m vs st' ⟨i,hi,hok,rfl,rfl,rfl⟩
  conv=>whnf
  cases h:decide ((i:Int)<(l.length:Int))
  ·have:=of_decide_eq_false h
   conv=>whnf
   refine ⟨?_,rfl⟩
   rw [ht,I0 fun k hk=>hok k (by omega)];rfl
  ·have hi':i<l.length:=by have:=of_decide_eq_true h;omega
   conv=>whnf
   refine ⟨rfl,⟨by omega,by omega⟩,?_⟩
   have yes:R3 l i (l.getD (i:Int).toNat default)=true→∀ k,k<i+1→R3 l k (l.getD k default)=true:=fun h=>K9 hok h
   have no:R3 l i (l.getD (i:Int).toNat default)=false→promosC l=false:=fun h=>by rw [ht];exact R4 hi' h
   have hmem:l.getD (i:Int).toNat default∈l:=by
    rw [Int.toNat_natCast,List.getD_eq_getElem?_getD,List.getElem?_eq_getElem hi'];exact List.getElem_mem hi'
   unfold R3 at yes no;conv=>whnf
   refine B0 (A7T (l.getD (i:Int).toNat default) (hf _ hmem) _) ?_;conv=>whnf
   refine C0 (fun h1=>?_) (fun h1=>?_)
   ·rw [h1];conv=>whnf
    refine ⟨?_,rfl⟩
    rw [no (by rw [show F6 (l.getD (i:Int).toNat default)=false by simpa using h1,Bool.false_and])];rfl
   ·rw [h1]
    have h1':F6 (l.getD (i:Int).toNat default)=true:=by simpa using h1
    conv=>whnf
    refine ⟨rfl,⟨by omega,by omega,by omega⟩,?_⟩;conv=>whnf
    refine H8 (B3.cons (A9l 15 B7 l i _ _ hi (by omega) (fun k hk=>by simp) _) (B3.keep _ _)) (B0 (B2Z (l.take i) (by rw [List.length_take];omega) _ [.fptr (B7 (l.getD (i:Int).toNat default)) 0] (fun x=>x.id.toList==(l.getD (i:Int).toNat default).id.toList) _ fun x _=>B9o _ x _) ?_);conv=>whnf
    refine C0 (fun h2=>?_) (fun h2=>?_)
    ·rw [h2];conv=>whnf
     refine ⟨?_,rfl⟩
     rw [no (by rw [h2,Bool.not_true,Bool.and_false])];rfl
    ·rw [h2];conv=>whnf
     refine ⟨rfl,?_⟩;conv=>whnf
     exact ⟨l.length - (i+1),by omega,i+1,by omega,yes (by rw [h1',h2];rfl),rfl,by rw [C2 (by omega)],rfl⟩
def A2J (x:Ab.Item):Bool:=!(!E7 x.sku||!E7 x.cat||decide (x.price<0)||decide (x.price>1000000000))
def A0p (l:List Ab.Item):Bool:=!decide ((l.length:Int)>500)&&(I2 l (fun _ x=>A2J x)&&V7 (l.map Ab.Item.sku))
theorem C0M (l:List Ab.Item) (st:St):S P 174 [B2 4 F4 l] st fun v st'=>v=.bool (A0p l)∧st'=st:=by
 refine A5c ?_
 refine A8 [5] B9 mixed Tryz.func174 (by rfl) rfl rfl rfl ?_;conv=>whnf
 refine C0 (fun h=>?_) (fun h=>?_)<;>rw [h]
 ·conv=>whnf
  refine ⟨?_,G3.refl _⟩
  rw [show A0p l=false by unfold A0p;rw [h];rfl];rfl
 have hs:l.length≤500:=by simp only [decide_eq_false_iff_not] at h;omega
 have ht:A0p l=(I2 l (fun _ x=>A2J x)&&V7 (l.map Ab.Item.sku)):=by unfold A0p;rw [h,Bool.not_false,Bool.true_and]
 conv=>whnf
 refine ⟨[3,9,10,11],fun m vs st'=>∃ (i:Nat) (sv:AV),i≤l.length∧(∀ k,k<i→(fun (_:Nat) (x:Ab.Item)=>A2J x) k (l.getD k default)=true)∧m=l.length - i∧vs=[sv,B2 4 F4 l,eI l.length,eI i]∧N1 9 1 (fun k=>eS (Ab.Item.sku (l.getD k default))) st i sv st',?_,?_⟩
 ·conv=>whnf
  exact ⟨_,0,.emp,Nat.zero_le _,fun k hk=>absurd hk (by omega),rfl,rfl,N1.start _ _ _ _⟩
 ·rintro m vs st' ⟨i,sv,hi,hok,rfl,rfl,hc⟩
  conv=>whnf
  cases h:decide ((i:Int)<(l.length:Int))
  ·have:=of_decide_eq_false h
   obtain rfl:i=l.length:=by omega
   conv=>whnf
   refine H8 (hc.shift.trans (B1i Ab.Item.sku l st)) (B0 (A9e (l.map Ab.Item.sku) (by rw [List.length_map];omega) st) ?_);conv=>whnf
   refine ⟨?_,G3.refl _⟩
   rw [ht,I0 fun k hk=>hok k (by omega),Bool.true_and];rfl
  ·have hi':i<l.length:=by have:=of_decide_eq_true h;omega
   conv=>whnf
   refine ⟨rfl,⟨by omega,by omega⟩,?_⟩
   have yes:(fun (_:Nat) (x:Ab.Item)=>A2J x) i (l.getD (i:Int).toNat default)=true→∀ k,k<i+1→(fun (_:Nat) (x:Ab.Item)=>A2J x) k (l.getD k default)=true:=fun h=>K9 hok h
   have no:(fun (_:Nat) (x:Ab.Item)=>A2J x) i (l.getD (i:Int).toNat default)=false→A0p l=false:=fun h=>by rw [ht,R4 hi' h,Bool.false_and]
   have hmem:l.getD (i:Int).toNat default∈l:=by
    rw [Int.toNat_natCast,List.getD_eq_getElem?_getD,List.getElem?_eq_getElem hi'];exact List.getElem_mem hi'
   have hsup:=hc.sup
   simp only [A2J] at yes no
   repeat' ((conv=>whnf);first | refine B0 (A5u _ _) ?_ | (refine C0 (fun h=>?_) (fun h=>?_)<;>rw [h]))
   all_goals (conv=>whnf)
   all_goals first
    | (refine ⟨?_,hsup⟩;rw [no (by first | (simp only [*,Bool.true_and,Bool.and_self,Bool.or_true,Bool.true_or,Bool.not_true];done) | simpa using h)];rfl)
    | skip
   refine N1.app rfl rfl rfl rfl rfl ?_ (by show (i+1) * 16≤140737488355328;omega) hc (fun sv' st'' hc'=>?_)
   ·rfl
   conv=>whnf
   refine ⟨rfl,?_⟩;conv=>whnf
   exact ⟨l.length - (i+1),by omega,i+1,sv',by omega,yes (by first | (simp only [*,Bool.false_and,Bool.and_false,Bool.or_false,Bool.not_false];done) | simpa using h),rfl,by rw [C2 (by omega)],hc'⟩
def A3C (x:G0):Bool:=!(!E7 x.cat||!P7 0 10000 x.rate)
def Y6 (z:T7):Bool:=!(!E7 z.name||!P7 0 10000 z.rest||!P7 0 10000 z.ship||decide ((z.rates.length:Int)>40))&&(I2 z.rates (fun _ x=>A3C x)&&V7 (z.rates.map G0.cat))
theorem C3s (z:T7) (st:St):S P 257 [A1L z] st fun v st'=>v=.bool (Y6 z)∧st'=st:=by
 refine A5c ?_
 refine A8 [1,5] B9 mixed Tryz.func257 (by rfl) rfl rfl rfl ?_
 repeat' ((conv=>whnf);first | refine B0 (A5u _ _) ?_ | refine B0 (B1E _ _) ?_ | (refine C0 (fun h=>?_) (fun h=>?_)<;>rw [h]))
 all_goals (conv=>whnf)
 all_goals first
  | (refine ⟨?_,G3.refl _⟩
     rw [show Y6 z=false by unfold Y6;simp only [*,Bool.true_or,Bool.or_true,Bool.not_true,Bool.false_and]]
     rfl)
  | skip
 have hs:z.rates.length≤40:=by simp only [decide_eq_false_iff_not] at h;omega
 have ht:Y6 z=(I2 z.rates (fun _ x=>A3C x)&&V7 (z.rates.map G0.cat)):=by unfold Y6;simp only [*,Bool.or_false,Bool.not_false,Bool.true_and]
 refine ⟨[3,29,30,31],fun m vs st'=>∃ (i:Nat) (sv:AV),i≤z.rates.length∧(∀ k,k<i→(fun (_:Nat) (x:G0)=>A3C x) k (z.rates.getD k default)=true)∧m=z.rates.length - i∧vs=[sv,B2 2 A1K z.rates,eI z.rates.length,eI i]∧N1 9 1 (fun k=>eS (G0.cat (z.rates.getD k default))) st i sv st',?_,?_⟩
 ·conv=>whnf
  exact ⟨_,0,.emp,Nat.zero_le _,fun k hk=>absurd hk (by omega),rfl,rfl,N1.start _ _ _ _⟩
 ·rintro m vs st' ⟨i,sv,hi,hok,rfl,rfl,hc⟩
  conv=>whnf
  cases h:decide ((i:Int)<(z.rates.length:Int))
  ·have:=of_decide_eq_false h
   obtain rfl:i=z.rates.length:=by omega
   conv=>whnf
   refine H8 (hc.shift.trans (B1i G0.cat z.rates st)) (B0 (A9e (z.rates.map G0.cat) (by rw [List.length_map];omega) st) ?_);conv=>whnf
   refine ⟨?_,G3.refl _⟩
   rw [ht,I0 fun k hk=>hok k (by omega),Bool.true_and];rfl
  ·have hi':i<z.rates.length:=by have:=of_decide_eq_true h;omega
   conv=>whnf
   refine ⟨rfl,⟨by omega,by omega⟩,?_⟩
   have yes:(fun (_:Nat) (x:G0)=>A3C x) i (z.rates.getD (i:Int).toNat default)=true→∀ k,k<i+1→(fun (_:Nat) (x:G0)=>A3C x) k (z.rates.getD k default)=true:=fun h=>K9 hok h
   have no:(fun (_:Nat) (x:G0)=>A3C x) i (z.rates.getD (i:Int).toNat default)=false→Y6 z=false:=fun h=>by rw [ht,R4 hi' h,Bool.false_and]
   have hmem:z.rates.getD (i:Int).toNat default∈z.rates:=by
    rw [Int.toNat_natCast,List.getD_eq_getElem?_getD,List.getElem?_eq_getElem hi'];exact List.getElem_mem hi'
   have hsup:=hc.sup
   simp only [A3C] at yes no
   repeat' ((conv=>whnf);first | refine B0 (A5u _ _) ?_ | refine B0 (B1E _ _) ?_ | (refine C0 (fun h=>?_) (fun h=>?_)<;>rw [h]))
   all_goals (conv=>whnf)
   all_goals first
    | (refine ⟨?_,hsup⟩;rw [no (by first | (simp only [*,Bool.true_and,Bool.and_self,Bool.or_true,Bool.true_or,Bool.not_true];done) | simpa using h)];rfl)
    | skip
   refine N1.app rfl rfl rfl rfl rfl ?_ (by show (i+1) * 16≤140737488355328;omega) hc (fun sv' st'' hc'=>?_)
   ·rfl
   conv=>whnf
   refine ⟨rfl,?_⟩;conv=>whnf
   exact ⟨z.rates.length - (i+1),by omega,i+1,sv',by omega,yes (by first | (simp only [*,Bool.false_and,Bool.and_false,Bool.or_false,Bool.not_false];done) | simpa using h),rfl,by rw [C2 (by omega)],hc'⟩
def A6C (x:Tax):Bool:=!(decide (x.round<0)||decide (x.round>2)||decide ((x.zones.length:Int)>20))&&(I2 x.zones (fun _ z=>Y6 z)&&V7 (x.zones.map T7.name))
theorem C5c (x:Tax) (st:St):S P 176 [A9M x] st fun v st'=>v=.bool (A6C x)∧st'=st:=by
 refine A5c ?_
 refine A8 [1,5] B9 mixed Tryz.func176 (by rfl) rfl rfl rfl ?_
 repeat' ((conv=>whnf);first  | (refine C0 (fun h=>?_) (fun h=>?_)<;>rw [h]))
 all_goals (conv=>whnf)
 all_goals first
  | (refine ⟨?_,G3.refl _⟩
     rw [show A6C x=false by unfold A6C;simp only [*,Bool.true_or,Bool.or_true,Bool.not_true,Bool.false_and]]
     rfl)
  | skip
 have hs:x.zones.length≤20:=by simp only [decide_eq_false_iff_not] at h;omega
 have ht:A6C x=(I2 x.zones (fun _ z=>Y6 z)&&V7 (x.zones.map T7.name)):=by unfold A6C;simp only [*,Bool.or_false,Bool.not_false,Bool.true_and]
 refine ⟨[3,21,22,23],fun m vs st'=>∃ (i:Nat) (sv:AV),i≤x.zones.length∧(∀ k,k<i→(fun (_:Nat) (z:T7)=>Y6 z) k (x.zones.getD k default)=true)∧m=x.zones.length - i∧vs=[sv,B2 4 A1L x.zones,eI x.zones.length,eI i]∧N1 9 1 (fun k=>eS (T7.name (x.zones.getD k default))) st i sv st',?_,?_⟩
 ·conv=>whnf
  exact ⟨_,0,.emp,Nat.zero_le _,fun k hk=>absurd hk (by omega),rfl,rfl,N1.start _ _ _ _⟩
 ·rintro m vs st' ⟨i,sv,hi,hok,rfl,rfl,hc⟩
  conv=>whnf
  cases h:decide ((i:Int)<(x.zones.length:Int))
  ·have:=of_decide_eq_false h
   obtain rfl:i=x.zones.length:=by omega
   conv=>whnf
   refine H8 (hc.shift.trans (B1i T7.name x.zones st)) (B0 (A9e (x.zones.map T7.name) (by rw [List.length_map];omega) st) ?_);conv=>whnf
   refine ⟨?_,G3.refl _⟩
   rw [ht,I0 fun k hk=>hok k (by omega),Bool.true_and];rfl
  ·have hi':i<x.zones.length:=by have:=of_decide_eq_true h;omega
   conv=>whnf
   refine ⟨rfl,⟨by omega,by omega⟩,?_⟩
   have yes:(fun (_:Nat) (z:T7)=>Y6 z) i (x.zones.getD (i:Int).toNat default)=true→∀ k,k<i+1→(fun (_:Nat) (z:T7)=>Y6 z) k (x.zones.getD k default)=true:=fun h=>K9 hok h
   have no:(fun (_:Nat) (z:T7)=>Y6 z) i (x.zones.getD (i:Int).toNat default)=false→A6C x=false:=fun h=>by rw [ht,R4 hi' h,Bool.false_and]
   have hmem:x.zones.getD (i:Int).toNat default∈x.zones:=by
    rw [Int.toNat_natCast,List.getD_eq_getElem?_getD,List.getElem?_eq_getElem hi'];exact List.getElem_mem hi'
   have hsup:=hc.sup
   simp only [not_true] at yes no
   conv=>whnf
   refine B0 (C3s (x.zones.getD (i:Int).toNat default) _) ?_;conv=>whnf
   refine C0 (fun h=>?_) (fun h=>?_)<;>rw [h]
   all_goals (conv=>whnf)
   all_goals first
    | (refine ⟨?_,hsup⟩;rw [no (by first | (simp only [*,Bool.true_and,Bool.and_self,Bool.or_true,Bool.true_or,Bool.not_true];done) | simpa using h)];rfl)
    | skip
   refine N1.app rfl rfl rfl rfl rfl ?_ (by show (i+1) * 16≤140737488355328;omega) hc (fun sv' st'' hc'=>?_)
   ·rfl
   conv=>whnf
   refine ⟨rfl,?_⟩;conv=>whnf
   exact ⟨x.zones.length - (i+1),by omega,i+1,sv',by omega,yes (by first | (simp only [*,Bool.false_and,Bool.and_false,Bool.or_false,Bool.not_false];done) | simpa using h),rfl,by rw [C2 (by omega)],hc'⟩
def A1h (l:List Int) (i:Nat) (k:Int):Bool:=!(!P7 1 9 k||(l.take i).any fun y=>k==y)
def Z3 (l:List Int):Bool:=I2 l (A1h l)
theorem B5t (l:List Int) (hl:l.length<9223372036854775807) (st:St):S P 259 [B6 l] st fun v st'=>v=.bool (Z3 l)∧st'=st:=by
 refine A8 [] B9 mixed Tryz.func259 (by rfl) rfl rfl rfl ?_;conv=>whnf
 refine ⟨[0,5,6,7],fun m vs st'=>∃ i:Nat,i≤l.length∧(∀ k,k<i→A1h l k (l.getD k default)=true)∧m=l.length - i∧vs=[B6 l,B6 l,eI l.length,eI i]∧st'=st,?_,?_⟩
 ·conv=>whnf
  exact ⟨_,0,Nat.zero_le _,fun k hk=>absurd hk (by omega),rfl,rfl,rfl⟩
 ·rintro m vs st' ⟨i,hi,hok,rfl,rfl,rfl⟩
  conv=>whnf
  cases h:decide ((i:Int)<(l.length:Int))
  ·have:=of_decide_eq_false h
   conv=>whnf
   refine ⟨?_,rfl⟩
   rw [show Z3 l=true from I0 fun k hk=>hok k (by omega)];rfl
  ·have hi':i<l.length:=by have:=of_decide_eq_true h;omega
   conv=>whnf
   refine ⟨rfl,⟨by omega,by omega⟩,?_⟩
   have yes:A1h l i (l.getD (i:Int).toNat default)=true→∀ k,k<i+1→A1h l k (l.getD k default)=true:=fun h=>K9 hok h
   have no:A1h l i (l.getD (i:Int).toNat default)=false→Z3 l=false:=fun h=>R4 hi' h
   unfold A1h at yes no;conv=>whnf
   refine B0 (C2z _ _) ?_;conv=>whnf
   refine C0 (fun h1=>?_) (fun h1=>?_)
   ·rw [h1];conv=>whnf
    refine ⟨?_,rfl⟩
    rw [no (by rw [h1];rfl)];rfl
   ·rw [h1];conv=>whnf
    refine ⟨rfl,⟨by omega,by omega,by omega⟩,?_⟩;conv=>whnf
    refine H8 (B3.cons (A9l 1 eI l i _ _ hi (by omega) (fun k hk=>by simp) _) (B3.keep _ _)) (B0 (B8r (l.take i) (by rw [List.length_take];omega) _ _) ?_);conv=>whnf
    refine C0 (fun h2=>?_) (fun h2=>?_)
    ·rw [h2];conv=>whnf
     refine ⟨?_,rfl⟩
     rw [no (by rw [h2,Bool.or_true,Bool.not_true])];rfl
    ·rw [h2];conv=>whnf
     refine ⟨rfl,?_⟩;conv=>whnf
     exact ⟨l.length - (i+1),by omega,i+1,by omega,yes (by rw [h1,h2];rfl),rfl,by rw [C2 (by omega)],rfl⟩
def A4N (p:A3Q):Bool:=P7 0 100000 p.window&&P7 0 100000 p.grace&&decide (p.mode≥1)&&decide (p.mode≤3)&&P7 0 10000 p.restock&&Z3 p.order&&Z3 p.credit
structure U3 (r:I6):Prop where
 promos:r.promos.length≤Big
 fit:∀ p∈r.promos,M9 p
 order:r.policy.order.length<9223372036854775807
 credit:r.policy.credit.length<9223372036854775807
theorem B8Q (p:A3Q) (h1:p.order.length<9223372036854775807) (h2:p.credit.length<9223372036854775807) (st:St):S P 178 [C0x p] st fun v st'=>v=.bool (A4N p)∧st'=st:=by
 refine A8 [1] B9 mixed Tryz.func178 (by rfl) rfl rfl rfl ?_
 repeat' ((conv=>whnf);first | refine B0 (C3y _ st) ?_ | refine B0 (B1E _ st) ?_ | refine B0 (B5t p.order h1 st) ?_ | refine B0 (B5t p.credit h2 st) ?_ | (refine C0 (fun h=>?_) (fun h=>?_)<;>rw [h]))
 all_goals (conv=>whnf)
 all_goals (refine ⟨?_,rfl⟩;show AV.bool _=AV.bool _;congr 1)
 all_goals (simp only [A4N, *,Bool.true_and,Bool.false_and,Bool.and_true,Bool.and_false,Bool.or_true,Bool.or_false,Bool.true_or,Bool.false_or,Bool.not_true,Bool.not_false,Bool.not_not];try rfl)
def P6 (r:I6):Bool:=A0p r.items&&promosC r.promos&&A6C r.tax&&A7w r.ship&&A4N r.policy
theorem C1l (r:I6) (hf:U3 r) (st:St):S P 95 [J6 r] st fun v st'=>v=.bool (P6 r)∧st'=st:=by
 refine A8 [1] B9 mixed Tryz.func95 (by rfl) rfl rfl rfl ?_
 repeat' ((conv=>whnf);first | refine B0 (C0M r.items st) ?_ | refine B0 (B8S r.promos hf.promos hf.fit st) ?_ | refine B0 (C5c r.tax st) ?_ | refine B0 (C2X r.ship st) ?_ | refine B0 (B8Q r.policy hf.order hf.credit st) ?_ | (refine C0 (fun h=>?_) (fun h=>?_)<;>rw [h]))
 all_goals (conv=>whnf)
 all_goals (refine ⟨?_,rfl⟩;show AV.bool _=AV.bool _;congr 1)
 all_goals (simp only [P6, *,Bool.true_and,Bool.false_and,Bool.and_true,Bool.and_false,Bool.or_true,Bool.or_false,Bool.true_or,Bool.false_or,Bool.not_true,Bool.not_false,Bool.not_not];try rfl)
end Go.Proofs.YtbajhapmlfbelaaGreat
namespace Go.Proofs.YtbajhapmlfbelaaGreat
open Go Go.Ab
theorem A1y:∀ x:List UInt8,Op.bytesLess x x=false
 | []=>rfl
 | a::x=>by simp [Op.bytesLess,A1y x,UInt8.lt_irrefl]
theorem B2k:∀ x y z:List UInt8,Op.bytesLess x y=true→Op.bytesLess y z=true→Op.bytesLess x z=true
 | _,_,[],_,h=>by simp [Op.bytesLess] at h
 | _,[],_::_,h,_=>by simp [Op.bytesLess] at h
 | [],_::_,_::_,_,_=>by simp [Op.bytesLess]
 | a::x,b::y,c::z,h1,h2=>by
  simp only [Op.bytesLess,Bool.or_eq_true,Bool.and_eq_true,decide_eq_true_eq,beq_iff_eq] at *
  rcases h1 with h1 | ⟨rfl,h1⟩
  ·rcases h2 with h2 | ⟨rfl,h2⟩
   ·exact .inl (UInt8.lt_trans h1 h2)
   ·exact .inl h1
  ·rcases h2 with h2 | ⟨rfl,h2⟩
   ·exact .inl h2
   ·exact .inr ⟨rfl,B2k x y z h1 h2⟩
theorem B7R:∀ x y:List UInt8,Op.bytesLess x y=false→Op.bytesLess y x=false→x=y
 | [],[],_,_=>rfl
 | [],_::_,h,_=>by simp [Op.bytesLess] at h
 | _::_,[],_,h=>by simp [Op.bytesLess] at h
 | a::x,b::y,h1,h2=>by
  simp only [Op.bytesLess,Bool.or_eq_false_iff,Bool.and_eq_false_iff,decide_eq_false_iff_not,beq_eq_false_iff_ne] at *
  have hab:a=b:=by
   have n1:=UInt8.not_lt.1 h1.1
   have n2:=UInt8.not_lt.1 h2.1
   exact UInt8.le_antisymm n2 n1
  subst hab
  rw [B7R x y (h1.2.resolve_left (by simp)) (h2.2.resolve_left (by simp))]
theorem A3t (a:D7):slt a a=false:=A1y _
theorem B0D {a b c:D7} (h1:slt a b=true) (h2:slt b c=true):slt a c=true:=B2k _ _ _ h1 h2
theorem A4S {a b:D7} (h1:slt a b=false) (h2:slt b a=false):a.toList=b.toList:=B7R _ _ h1 h2
theorem A4R {a b:D7} (h:slt a b=true):slt b a=false:=by
 cases hb:slt b a with
 | false=>rfl
 | true=>have:=B0D h hb;rw [A3t] at this;cases this
theorem A2R {a b c:D7} (h1:slt b a=false) (h2:slt c b=false):slt c a=false:=by
 cases hca:slt c a with
 | false=>rfl
 | true =>
  cases hab:slt a b with
  | true=>have:=B0D hca hab;rw [this] at h2;cases h2
  | false =>
   have e:=A4S hab h1
   have:slt c b=true:=by unfold slt at *;rw [←e];exact hca
   rw [this] at h2;cases h2
theorem B0C {a a' b b':D7} (h1:a.toList=a'.toList) (h2:b.toList=b'.toList):slt a b=slt a' b':=by unfold slt;rw [h1,h2]
def A2S (l:List D7) (k:Nat):Bool:=k==0||!slt (l.getD k default) (l.getD (k - 1) default)
theorem B3v {l:List D7} (h:∀ k,k<l.length→A2S l k=true) {a b:Nat} (hab:a≤b) (hb:b<l.length):slt (l.getD b default) (l.getD a default)=false:=by
 induction b with
 | zero=>have:a=0:=by omega
         subst this;exact A3t _
 | succ b ih =>
  rcases Nat.lt_or_ge a (b+1) with hlt | hge
  ·have h1:=ih (by omega) (by omega)
   have h2:=h (b+1) hb
   simp only [A2S,Nat.add_one_ne_zero,beq_iff_eq,Bool.or_eq_true,Bool.not_eq_true',Nat.add_sub_cancel,false_or] at h2
   exact A2R h1 h2
  ·have:a=b+1:=by omega
   subst this;exact A3t _
end Go.Proofs.YtbajhapmlfbelaaGreat
namespace Go.Proofs.YtbajhapmlfbelaaGreat
open Go Go.Ab
attribute [local irreducible] upd del
theorem C1T (a:D7) (st:St):S P 263 [eS a] st fun v st'=>v=.bool false∧st'=st:=by
 refine A8 [] B9 mixed Tryz.func263 (by rfl) rfl rfl rfl ?_;conv=>whnf
 refine ⟨?_,rfl⟩
 show AV.bool (!(a.toList==a.toList))=_
 simp
def A6N (a b:D7):Int:=if slt a b=true then -1 else if slt b a=true then 1 else 0
theorem B5p (a b:D7):(!(Op.bytesLess a.toList b.toList||a.toList==b.toList))=slt b a:=by
 cases h1:Op.bytesLess a.toList b.toList with
 | true=>rw [A4R (a:=a) (b:=b) h1];rfl
 | false =>
  cases h2:slt b a with
  | true =>
   have hne:(a.toList==b.toList)=false:=by
    rw [beq_eq_false_iff_ne];intro e
    unfold slt at h2;rw [e,A1y] at h2;cases h2
   rw [hne];rfl
  | false=>rw [A4S (a:=a) (b:=b) h1 h2];simp
theorem C1M (a b:D7) (st:St):S P 192 [eS a,eS b] st fun v st'=>v=eI (A6N a b)∧st'=st:=by
 refine A8 [] B9 mixed Tryz.func192 (by rfl) rfl rfl rfl ?_;conv=>whnf
 refine B0 (C1T _ _) ?_;conv=>whnf
 refine B0 (C1T _ _) ?_;conv=>whnf
 refine C0 (fun h=>?_) (fun h=>?_)<;>rw [h]
 ·conv=>whnf
  exact ⟨by rw [show A6N a b = -1 from if_pos h];rfl,rfl⟩
 ·have h0:¬ slt a b=true:=by rw [show slt a b=false from h];simp
  conv=>whnf
  refine C0 (fun h2=>?_) (fun h2=>?_)
  ·have h3:slt b a=true:=by rw [←B5p a b];exact h2
   rw [h2];conv=>whnf
   exact ⟨by rw [show A6N a b=1 by unfold A6N;rw [if_neg h0,if_pos h3]];rfl,rfl⟩
  ·have h3:¬ slt b a=true:=by rw [←B5p a b,Bool.not_eq_true];exact h2
   rw [h2];conv=>whnf
   exact ⟨by rw [show A6N a b=0 by unfold A6N;rw [if_neg h0,if_neg h3]];rfl,rfl⟩
theorem B0V (a b:Ab.Item) (st:St):S P 201 [F4 a,F4 b] st fun v st'=>v=eI (A6N a.sku b.sku)∧st'=st:=by
 refine A8 [2,3] B9 mixed Tryz.func201 (by rfl) rfl rfl rfl ?_;conv=>whnf
 refine B0 (C1M _ _ _) ?_;conv=>whnf
 exact ⟨rfl,rfl⟩
theorem A8l (a b:D7):decide (A6N a b<0)=slt a b:=by
 unfold A6N
 split
 ·rename_i h;rw [h];rfl
 ·rename_i h
  rw [Bool.not_eq_true] at h
  rw [h];split<;>rfl
theorem B6d (a b:D7):(A6N a b==0)=(a.toList==b.toList):=by
 unfold A6N
 split
 ·rename_i h
  have:(a.toList==b.toList)=false:=by
   rw [beq_eq_false_iff_ne];intro e
   unfold slt at h;rw [e,A1y] at h;cases h
  rw [this];rfl
 ·split
  ·rename_i h1 h
   have:(a.toList==b.toList)=false:=by
    rw [beq_eq_false_iff_ne];intro e
    unfold slt at h;rw [e,A1y] at h;cases h
   rw [this];rfl
  ·rename_i h1 h2
   rw [Bool.not_eq_true] at h1 h2
   rw [A4S h1 h2];simp
abbrev skus (l:List Ab.Item):List D7:=l.map Ab.Item.sku
theorem B1I (l:List Ab.Item) {k:Nat} (hk:k<l.length):(skus l).getD k default=(l.getD k default).sku:=E1 Ab.Item.sku l hk
def A6y (l:List D7):Bool:=(List.range l.length).all (A2S l)
theorem B9D (l:List Ab.Item) (hl:l.length≤9223372036854775807) (st:St):S P 200 [B2 4 F4 l,.fn (.func 201) [] []] st fun v st'=>v=.bool (A6y (skus l))∧st'=st:=by
 refine A8 [] B9 mixed Tryz.func200 (by rfl) rfl rfl rfl ?_;conv=>whnf
 have hlen:(skus l).length=l.length:=List.length_map ..
 refine ⟨[0,1,5],fun m vs st'=>∃ i:Int,-1≤i∧i<l.length∧(∀ k:Nat,i<k→k<l.length→A2S (skus l) k=true)∧m=(i+1).toNat∧vs=[B2 4 F4 l,.fn (.func 201) [] [],eI i]∧st'=st,?_,?_⟩
 ·conv=>whnf
  have w:IntKind.i64.wrap ((l.length:Int) - 1)=(l.length:Int) - 1:=A7 (by omega) (by omega)
  exact ⟨_,(l.length:Int) - 1,by omega,by omega,fun k h1 h2=>by omega,rfl,by rw [w],rfl⟩
 ·rintro m vs st' ⟨i,h0,hi,hok,rfl,rfl,rfl⟩
  conv=>whnf
  cases h:decide (i>0)
  ·have:=of_decide_eq_false h
   conv=>whnf
   refine ⟨?_,rfl⟩
   rw [show A6y (skus l)=true from B3M fun k hk=>?_];rfl
   rw [hlen] at hk
   rcases Nat.eq_zero_or_pos k with e | e
   ·subst e;rfl
   ·exact hok k (by omega) hk
  ·have hp:=of_decide_eq_true h
   have w:IntKind.i64.wrap (i - 1)=i - 1:=A7 (by omega) (by omega)
   conv=>whnf
   refine ⟨[],[],[0,1,2,3,4,5,6,7,8,9,10,11],by kernel_rfl,?_⟩;conv=>whnf
   refine ⟨rfl,⟨by omega,by omega⟩,?_⟩;conv=>whnf
   rw [w]
   refine ⟨rfl,⟨by omega,by omega⟩,?_⟩;conv=>whnf
   refine ⟨_,D3 (B0V (l.getD i.toNat default) (l.getD (i - 1).toNat default) _),?_⟩;conv=>whnf
   rw [A8l]
   have e:A2S (skus l) i.toNat=!slt (l.getD i.toNat default).sku (l.getD (i - 1).toNat default).sku:=by
    unfold A2S
    rw [beq_false_of_ne (by omega),Bool.false_or,B1I l (by omega),B1I l (by omega),show i.toNat - 1=(i - 1).toNat by omega]
   refine C0 (fun h2=>?_) (fun h2=>?_)
   ·rw [h2] at e ⊢;conv=>whnf
    refine ⟨?_,rfl⟩
    rw [show A6y (skus l)=false from A2L (k:=i.toNat) (by omega) e];rfl
   ·rw [h2] at e ⊢;conv=>whnf
    refine ⟨rfl,?_⟩;conv=>whnf
    exact ⟨i.toNat,by omega,i - 1,by omega,by omega,fun k h1 h2=>by
     rcases (by omega:k=i.toNat∨i<k) with e' | e'
     ·rw [e'];exact e
     ·exact hok k e' h2,by omega,by rw [w],rfl⟩
theorem C0C (s:D7) (x:Ab.Item) (st:St):S P 203 [F4 x,.fptr (eS s) 0] st fun v st'=>v=.bool (x.sku.toList==s.toList)∧st'=st:=by
 refine A8 [2] B9 mixed Tryz.func203 (by rfl) rfl rfl rfl ?_;conv=>whnf
 exact ⟨rfl,rfl⟩
abbrev A0B (l:List Ab.Item) (s:D7):Int:=idx (fun x=>x.sku.toList==s.toList) l
theorem A6e {i j:Int} (hi:0≤i) (hij:i<j) (hj:j≤9223372036854775807):IntKind.i64.wrap ((IntKind.u64.wrap (IntKind.i64.wrap (i+j))).fdiv (2 ^ (min (1:Int).toNat IntKind.u64.bits)))=(i+j) / 2:=by
 have w:IntKind.u64.wrap (IntKind.i64.wrap (i+j))=i+j:=by
  rw [IntKind.wrap_i64]
  show (_:Int) % 18446744073709551616=_
  omega
 rw [w]
 rw [show (min (1:Int).toNat IntKind.u64.bits)=1 from rfl,Int.fdiv_eq_ediv_of_nonneg _ (by decide)]
 rw [show ((2:Int) ^ 1)=2 from rfl,A7 (x:=(i+j) / 2) (by omega) (by omega)]
theorem B9p (l:List Ab.Item) (x:Ab.Item) (hl:l.length≤9223372036854775807) (hs:A6y (skus l)=true) (st:St) :
  S P 204 [B2 4 F4 l,F4 x,.fn (.func 201) [] []] st fun v st'=>(∃ (i:Nat) (b:Bool),v=.tuple [eI i,.bool b]∧(if b=true then A0B l x.sku=i else A0B l x.sku = -1))∧st'=st:=by
 refine A8 [4] B9 mixed Tryz.func204 (by rfl) rfl rfl rfl ?_;conv=>whnf
 have hlen:(skus l).length=l.length:=List.length_map ..
 have hmono:∀ a b:Nat,a≤b→b<l.length→slt (l.getD b default).sku (l.getD a default).sku=false:=fun a b hab hb=>by
  have:=B3v (l:=skus l) (fun k hk=>List.all_eq_true.1 hs k (List.mem_range.2 hk)) hab (by omega)
  rwa [B1I l hb,B1I l (by omega)] at this
 refine ⟨[0,2,4,8,9,10],fun m vs st'=>∃ i j:Nat,i≤j∧j≤l.length∧(∀ k,k<i→slt (l.getD k default).sku x.sku=true)∧(∀ k,j≤k→k<l.length→slt (l.getD k default).sku x.sku=false)∧m=j - i ∧
  vs=[B2 4 F4 l,.fn (.func 201) [] [],.fptr (F4 x) 0,eI l.length,eI i,eI j]∧st'=st,?_,?_⟩
 ·conv=>whnf
  exact ⟨_,0,l.length,Nat.zero_le _,Nat.le_refl _,fun k hk=>absurd hk (by omega),fun k h1 h2=>absurd h1 (by omega),rfl,rfl,rfl⟩
 ·rintro m vs st' ⟨i,j,hij,hj,hlo,hhi,rfl,rfl,rfl⟩
  conv=>whnf
  cases h:decide ((i:Int)<(j:Int))
  ·have:=of_decide_eq_false h
   obtain rfl:i=j:=by omega
   conv=>whnf
   refine ⟨[],[],[0,1,2,3,4,5,6,7,8,9,10,11,12,13,14,15],by kernel_rfl,?_⟩;conv=>whnf
   have hne:∀ k,k<i→((l.getD k default).sku.toList==x.sku.toList)=false:=fun k hk=>by
    rw [beq_eq_false_iff_ne];intro e
    have:=hlo k hk
    unfold slt at this;rw [e,A1y] at this;cases this
   refine C0 (fun h1=>?_) (fun h1=>?_)<;>rw [h1]<;>simp only [decide_eq_true_eq,decide_eq_false_iff_not] at h1
   ·conv=>whnf
    refine ⟨rfl,⟨by omega,by omega⟩,?_⟩;conv=>whnf
    refine ⟨_,D3 (B0V (l.getD (i:Int).toNat default) x _),?_⟩;conv=>whnf
    rw [B6d]
    refine ⟨⟨i,(l.getD (i:Int).toNat default).sku.toList==x.sku.toList,rfl,?_⟩,rfl⟩
    split
    ·rename_i he
     exact A0J (by omega) hne he
    ·rename_i he
     rw [Bool.not_eq_true] at he
     have hlt:slt (l.getD i default).sku x.sku=false:=hhi i (Nat.le_refl _) (by omega)
     refine Q5 fun k hk=>?_
     rcases Nat.lt_or_ge k i with hki | hki
     ·exact hne k hki
     ·rw [beq_eq_false_iff_ne];intro e
      have h3:=hmono i k hki hk
      rw [beq_eq_false_iff_ne] at he
      refine he (A4S hlt ?_)
      rw [←B0C (a:=(l.getD k default).sku) e rfl];exact h3
   ·conv=>whnf
    refine ⟨⟨i,false,rfl,?_⟩,rfl⟩
    rw [if_neg (by simp)]
    exact Q5 fun k hk=>hne k (by omega)
  ·have hlt:=of_decide_eq_true h
   conv=>whnf
   rw [A6e (i:=i) (j:=j) (by omega) (by omega) (by omega)]
   have eh:((i:Int)+(j:Int)) / 2=(((i+j) / 2:Nat):Int):=by omega
   rw [eh]
   generalize hh:(i+j) / 2=mid at *
   refine ⟨[],[],[0,1,2,3,4,5,6,7],by kernel_rfl,?_⟩;conv=>whnf
   refine ⟨rfl,⟨by omega,by omega⟩,?_⟩;conv=>whnf
   refine ⟨_,D3 (B0V (l.getD (mid:Int).toNat default) x _),?_⟩;conv=>whnf
   rw [A8l]
   refine C0 (fun h1=>?_) (fun h1=>?_)
   ·have h1':slt (l.getD mid default).sku x.sku=true:=h1
    rw [h1];conv=>whnf
    refine ⟨rfl,?_⟩;conv=>whnf
    refine ⟨j - (mid+1),by omega,mid+1,j,by omega,hj,fun k hk=>?_,hhi,rfl,by rw [C2 (by omega)],rfl⟩
    cases hk2:slt (l.getD k default).sku x.sku with
    | true=>rfl
    | false =>
     have h3:=hmono k mid (by omega) (by omega)
     have:=A2R hk2 (show slt (l.getD mid default).sku (l.getD k default).sku=false from h3)
     rw [h1'] at this
     cases this
   ·have h1':slt (l.getD mid default).sku x.sku=false:=h1
    rw [h1];conv=>whnf
    refine ⟨rfl,?_⟩;conv=>whnf
    refine ⟨mid - i,by omega,i,mid,by omega,by omega,hlo,fun k h2 h3=>?_,rfl,rfl,rfl⟩
    exact A2R (b:=(l.getD mid default).sku) (by exact h1') (hmono mid k h2 h3)
theorem B8i (l:List Ab.Item) (s:D7) (hl:l.length≤9223372036854775807) (st:St):S P 114 [B2 4 F4 l,eS s] st fun v st'=>v=eI (A0B l s)∧st'=st:=by
 refine A8 [3,5] B9 mixed Tryz.func114 (by rfl) rfl rfl rfl ?_;conv=>whnf
 refine B0 (B9D l (by omega) _) ?_;conv=>whnf
 refine C0 (fun h=>?_) (fun h=>?_)
 ·rw [h];conv=>whnf
  refine B0 (B1g l (by omega) _ [.fptr (eS s) 0] (fun x=>x.sku.toList==s.toList) _ fun x _=>C0C s x _) ?_;conv=>whnf
  exact ⟨rfl,rfl⟩
 ·rw [h]
  have hs:A6y (skus l)=true:=by simpa using h
  conv=>whnf
  refine call (B9p l ⟨s,⟨#[]⟩,0,false⟩ hl hs _) (fun v st' hv=>?_)
  obtain ⟨⟨i,b,rfl,hb⟩,rfl⟩:=hv
  conv=>whnf
  cases b with
  | true =>
   conv=>whnf
   rw [if_pos rfl] at hb
   exact ⟨by rw [show A0B l s=i from hb];rfl,rfl⟩
  | false =>
   conv=>whnf
   rw [if_neg (by simp)] at hb
   exact ⟨by rw [show A0B l s = -1 from hb];rfl,rfl⟩
def I5 (l:List G1):Int:=l.foldl (fun s x=>s+x.qty) 0
def H9 (l:List G1):Int:=l.foldl (fun s x=>s+x.qty * x.price) 0
theorem W6 (x:G1):lineC x=true↔(0≤x.qty∧x.qty≤100000)∧(0≤x.price∧x.price≤1000000000):=by
 simp [lineC,P7]
theorem A8A {x:G1} (h:lineC x=true):0≤x.qty * x.price∧x.qty * x.price≤100000000000000:=by
 obtain ⟨⟨a,b⟩,c,d⟩:=(W6 x).1 h
 exact ⟨Int.mul_nonneg a c,Int.mul_le_mul b d c (by omega)⟩
theorem C3h (l:List G1) (hl:l.length≤1000) (hok:∀ x∈l,lineC x=true) (st:St):S P 276 [B2 3 I9 l] st fun v st'=>v=.tuple [eI (I5 l),eI (H9 l)]∧st'=st:=by
 refine A8 [7] B9 mixed Tryz.func276 (by rfl) rfl rfl rfl ?_;conv=>whnf
 refine ⟨[4,5,8,9,10],fun m vs st'=>∃ i:Nat,i≤l.length∧(0≤I5 (l.take i)∧I5 (l.take i)≤i * 100000)∧(0≤H9 (l.take i)∧H9 (l.take i)≤i * 100000000000000)∧m=l.length - i∧vs=[eI (I5 (l.take i)),eI (H9 (l.take i)),B2 3 I9 l,eI l.length,eI i]∧st'=st,?_,?_⟩
 ·conv=>whnf
  exact ⟨_,0,Nat.zero_le _,⟨Int.le_refl _,by simp [I5]⟩,⟨Int.le_refl _,by simp [H9]⟩,rfl,rfl,rfl⟩
 ·rintro m vs st' ⟨i,hi,hu,hg,rfl,rfl,rfl⟩
  conv=>whnf
  cases h:decide ((i:Int)<(l.length:Int))
  ·have:=of_decide_eq_false h
   obtain rfl:i=l.length:=by omega
   conv=>whnf
   refine ⟨?_,rfl⟩
   rw [List.take_length];rfl
  ·have hi':i<l.length:=by have:=of_decide_eq_true h;omega
   have hmem:l.getD (i:Int).toNat default∈l:=by
    rw [Int.toNat_natCast,List.getD_eq_getElem?_getD,List.getElem?_eq_getElem hi'];exact List.getElem_mem hi'
   have hx:=hok _ hmem
   obtain ⟨⟨q0,q1⟩,_⟩:=(W6 _).1 hx
   obtain ⟨m0,m1⟩:=A8A hx
   have eu:I5 (l.take (i+1))=I5 (l.take i)+(l.getD (i:Int).toNat default).qty:=O3 hi' _ _
   have eg:H9 (l.take (i+1))=H9 (l.take i)+(l.getD (i:Int).toNat default).qty * (l.getD (i:Int).toNat default).price:=O3 hi' _ _
   have w1:IntKind.i64.wrap (I5 (l.take i)+(l.getD (i:Int).toNat default).qty)=I5 (l.take (i+1)):=by rw [eu];exact A7 (by omega) (by omega)
   have w2:IntKind.i64.wrap ((l.getD (i:Int).toNat default).qty * (l.getD (i:Int).toNat default).price)=(l.getD (i:Int).toNat default).qty * (l.getD (i:Int).toNat default).price:=A7 (by omega) (by omega)
   have w3:IntKind.i64.wrap (H9 (l.take i)+(l.getD (i:Int).toNat default).qty * (l.getD (i:Int).toNat default).price)=H9 (l.take (i+1)):=by rw [eg];exact A7 (by omega) (by omega)
   conv=>whnf
   refine ⟨rfl,⟨by omega,by omega⟩,?_⟩;conv=>whnf
   refine ⟨rfl,?_⟩;conv=>whnf
   refine ⟨l.length - (i+1),by omega,i+1,by omega,?_,?_,rfl,?_,rfl⟩
   ·rw [eu];omega
   ·rw [eg];omega
   ·rw [C2 (by omega),←w1,←w3,w2]
def H6 (kn:D7→Bool) (x:G1):Bool:=!(kn x.sku&&lineC x)
def K5 (kn:D7→Bool) (l:List G1):Int :=
 if l.length>1000 then 6 else match l.find? (H6 kn) with
  | some x=>if kn x.sku=true then 2 else 7
  | none=>if (decide (I5 l>100000)||decide (H9 l>10000000000000))=true then 5 else 0
theorem A2H {α : Type} [Inhabited α] {p : α→Bool} {l:List α} {i:Nat} (hi:i<l.length) (h:∀ k,k<i→p (l.getD k default)=false) (hp:p (l.getD i default)=true):l.find? p=some (l.getD i default):=by
 induction l generalizing i with
 | nil=>simp at hi
 | cons a l ih =>
  cases i with
  | zero=>simp only [List.getD_cons_zero] at hp ⊢;rw [List.find?_cons_of_pos hp]
  | succ i =>
   have h0:=h 0 (by omega)
   simp only [List.getD_cons_zero] at h0
   rw [List.find?_cons_of_neg (by simp [h0])]
   simp only [List.getD_cons_succ] at hp ⊢
   exact ih (by simpa using hi) (fun k hk=>by simpa using h (k+1) (by omega)) hp
theorem A6Q {α : Type} [Inhabited α] {p : α→Bool} {l:List α} (h:∀ k,k<l.length→p (l.getD k default)=false):l.find? p=none:=by
 rw [List.find?_eq_none]
 intro x hx
 obtain ⟨i,hi,rfl⟩:=List.getElem_of_mem hx
 have:=h i hi
 simpa [hi] using this
theorem B4 {α : Type} [Inhabited α] {l:List α} {i:Nat} (hi:i<l.length):l.getD i default∈l:=by
 rw [List.getD_eq_getElem?_getD,List.getElem?_eq_getElem hi];exact List.getElem_mem hi
theorem F0 {α : Type} [Inhabited α] {l:List α} {x : α} (h:x∈l):∃ i,i<l.length∧x=l.getD i default:=by
 obtain ⟨i,hi,rfl⟩:=List.getElem_of_mem h
 exact ⟨i,hi,by simp [hi]⟩
theorem B5i (l:List G1) (kn:D7→Bool) (g:FuncId) (cs:List AV) (st:St) (hg:∀ x∈l,S P g (eS x.sku::cs) st fun v st'=>v=.bool (kn x.sku)∧st'=st) :
  S P 195 [B2 3 I9 l,.fn (.func g) [] cs] st fun v st'=>v=eI (K5 kn l)∧st'=st:=by
 refine A8 [6] B9 mixed Tryz.func195 (by rfl) rfl rfl rfl ?_;conv=>whnf
 refine C0 (fun h=>?_) (fun h=>?_)<;>rw [h]<;>simp only [decide_eq_true_eq,decide_eq_false_iff_not] at h
 ·conv=>whnf
  exact ⟨by rw [show K5 kn l=6 from if_pos (by omega)];rfl,rfl⟩
 have hs:l.length≤1000:=by omega
 have hc:K5 kn l=match l.find? (H6 kn) with
  | some x=>if kn x.sku=true then 2 else 7
  | none=>if (decide (I5 l>100000)||decide (H9 l>10000000000000))=true then 5 else 0:=if_neg (by omega)
 conv=>whnf
 refine ⟨[0,1,12,13,14],fun m vs st'=>∃ i:Nat,i≤l.length∧(∀ k,k<i→H6 kn (l.getD k default)=false)∧m=l.length - i∧vs=[B2 3 I9 l,.fn (.func g) [] cs,B2 3 I9 l,eI l.length,eI i]∧st'=st,?_,?_⟩
 ·conv=>whnf
  exact ⟨_,0,Nat.zero_le _,fun k hk=>absurd hk (by omega),rfl,rfl,rfl⟩
 ·rintro m vs st' ⟨i,hi,hok,rfl,rfl,rfl⟩
  conv=>whnf
  cases h:decide ((i:Int)<(l.length:Int))
  ·have:=of_decide_eq_false h
   rw [A6Q fun k hk=>hok k (by omega)] at hc
   have hall:∀ x∈l,lineC x=true:=fun x hx=>by
    obtain ⟨k,hk,rfl⟩:=F0 hx
    have:=hok k (by omega)
    simp only [H6,Bool.not_eq_false',Bool.and_eq_true] at this
    exact this.2
   conv=>whnf
   refine B0 (C3h l hs hall _) ?_;conv=>whnf
   refine C0 (fun h1=>?_) (fun h1=>?_)
   ·rw [h1] at hc ⊢;conv=>whnf
    exact ⟨by rw [hc];rfl,rfl⟩
   ·rw [h1] at hc ⊢;conv=>whnf
    refine C0 (fun h2=>?_) (fun h2=>?_)
    ·rw [h2] at hc ⊢;conv=>whnf
     exact ⟨by rw [hc];rfl,rfl⟩
    ·rw [h2] at hc ⊢;conv=>whnf
     exact ⟨by rw [hc];rfl,rfl⟩
  ·have hi':i<l.length:=by have:=of_decide_eq_true h;omega
   have hmem:l.getD (i:Int).toNat default∈l:=B4 hi'
   conv=>whnf
   refine ⟨rfl,⟨by omega,by omega⟩,?_⟩;conv=>whnf
   refine B0 (hg _ hmem) ?_;conv=>whnf
   refine C0 (fun h1=>?_) (fun h1=>?_)
   ·have hk:kn (l.getD (i:Int).toNat default).sku=false:=by simpa using h1
    rw [h1];conv=>whnf
    rw [A2H hi' hok (by show H6 kn (l.getD (i:Int).toNat default)=true;unfold H6;rw [hk];rfl)] at hc
    simp only at hc
    rw [if_neg (by rw [show kn (l.getD i default).sku=false from hk];simp)] at hc
    exact ⟨by rw [hc];rfl,rfl⟩
   ·have hk:kn (l.getD (i:Int).toNat default).sku=true:=by simpa using h1
    rw [h1];conv=>whnf
    refine B0 (C2A (l.getD (i:Int).toNat default) _) ?_;conv=>whnf
    refine C0 (fun h2=>?_) (fun h2=>?_)
    ·have hl:lineC (l.getD (i:Int).toNat default)=false:=by simpa using h2
     rw [h2];conv=>whnf
     rw [A2H hi' hok (by show H6 kn (l.getD (i:Int).toNat default)=true;unfold H6;rw [hl,Bool.and_false];rfl)] at hc
     simp only at hc
     rw [if_pos (show kn (l.getD i default).sku=true from hk)] at hc
     exact ⟨by rw [hc];rfl,rfl⟩
    ·have hl:lineC (l.getD (i:Int).toNat default)=true:=by simpa using h2
     rw [h2];conv=>whnf
     refine ⟨rfl,?_⟩;conv=>whnf
     exact ⟨l.length - (i+1),by omega,i+1,by omega,K9 hok (by show H6 kn (l.getD (i:Int).toNat default)=false;unfold H6;rw [hk,hl];rfl),rfl,by rw [C2 (by omega)],rfl⟩
theorem B7J (s:D7) (st:St):S P 234 [eS s] st fun v st'=>v=.bool true∧st'=st:=by
 refine A8 [] B9 mixed Tryz.func234 (by rfl) rfl rfl rfl ?_;conv=>whnf
 exact ⟨rfl,rfl⟩
theorem C3K (l:List G1) (st:St):S P 144 [B2 3 I9 l] st fun v st'=>v=.bool (K5 (fun _=>true) l==0)∧st'=st:=by
 refine A8 [] B9 mixed Tryz.func144 (by rfl) rfl rfl rfl ?_;conv=>whnf
 refine B0 (B5i l (fun _=>true) _ [] _ fun x _=>B7J x.sku _) ?_;conv=>whnf
 exact ⟨rfl,rfl⟩
theorem C0N (items:List Ab.Item) (hl:items.length≤9223372036854775807) (s:D7) (st:St):S P 196 [eS s,.fptr (B2 4 F4 items) 0] st fun v st'=>v=.bool (decide (A0B items s≥0))∧st'=st:=by
 refine A8 [] B9 mixed Tryz.func196 (by rfl) rfl rfl rfl ?_;conv=>whnf
 refine B0 (B8i items s hl _) ?_;conv=>whnf
 exact ⟨rfl,rfl⟩
def known (items:List Ab.Item) (s:D7):Bool:=decide (A0B items s≥0)
theorem C0d (items:List Ab.Item) (l:List G1) (hl:items.length≤9223372036854775807) (st:St):S P 102 [B2 4 F4 items,B2 3 I9 l] st fun v st'=>v=eI (K5 (known items) l)∧st'=st:=by
 refine A8 [2] B9 mixed Tryz.func102 (by rfl) rfl rfl rfl ?_;conv=>whnf
 refine B0 (B5i l (known items) _ [.fptr (B2 4 F4 items) 0] _ fun x _=>C0N items hl x.sku _) ?_;conv=>whnf
 exact ⟨rfl,rfl⟩
def C8 (items:List Ab.Item) (l:List G1):List Ab.Item:=l.map fun x=>items.getD (A0B items x.sku).toNat default
theorem B6s (items:List Ab.Item) (l:List G1) (hi:items.length≤9223372036854775807) (hl:l.length≤1000) (hk:∀ x∈l,known items x.sku=true) (st:St):S P 75 [B2 4 F4 items,B2 3 I9 l] st fun v st'=>v=B2 4 F4 (C8 items l)∧st'=st:=by
 have he:B2 4 F4 (C8 items l)=.arr 4 l.length (fun k=>F4 ((C8 items l).getD k default)):=by unfold B2;rw [show (C8 items l).length=l.length from List.length_map ..]
 rw [he]
 refine B7B (ty:=64) ?_
 refine A8 [7] B9 mixed Tryz.func75 (by rfl) rfl rfl rfl ?_;conv=>whnf
 refine ⟨[0,5,9,10,11],fun m vs st'=>∃ (i:Nat) (sv:AV),i≤l.length∧m=l.length - i∧vs=[B2 4 F4 items,sv,B2 3 I9 l,eI l.length,eI i]∧N1 64 4 (fun k=>F4 ((C8 items l).getD k default)) st i sv st',?_,?_⟩
 ·conv=>whnf
  exact ⟨_,0,.emp,Nat.zero_le _,rfl,rfl,N1.start _ _ _ _⟩
 ·rintro m vs st' ⟨i,sv,hi,rfl,rfl,hc⟩
  conv=>whnf
  cases h:decide ((i:Int)<(l.length:Int))
  ·have:=of_decide_eq_false h
   obtain rfl:i=l.length:=by omega
   conv=>whnf
   exact hc
  ·have hi':i<l.length:=by have:=of_decide_eq_true h;omega
   have hmem:l.getD (i:Int).toNat default∈l:=B4 hi'
   have hkn:=hk _ hmem
   simp only [known,decide_eq_true_eq] at hkn
   have hlt:=(B1e (fun x:Ab.Item=>x.sku.toList==(l.getD (i:Int).toNat default).sku.toList) items).2
   conv=>whnf
   refine ⟨rfl,⟨by omega,by omega⟩,?_⟩;conv=>whnf
   refine B0 (B8i items (l.getD (i:Int).toNat default).sku (by omega) _) ?_;conv=>whnf
   refine C0 (fun h1=>?_) (fun h1=>?_)
   ·exact absurd (of_decide_eq_true h1) (by omega)
   ·rw [h1];conv=>whnf
    refine ⟨rfl,⟨by omega,by omega⟩,?_⟩;conv=>whnf
    refine N1.app rfl rfl rfl rfl rfl ?_ (by show (i+1) * 48≤140737488355328;omega) hc (fun sv' st'' hc'=>?_)
    ·have e:(C8 items l).getD i default=items.getD (A0B items (l.getD i default).sku).toNat default:=E1 (fun x:G1=>items.getD (A0B items x.sku).toNat default) l hi'
     rw [e];rfl
    conv=>whnf
    refine ⟨rfl,?_⟩;conv=>whnf
    exact ⟨l.length - (i+1),by omega,i+1,sv',by omega,rfl,by rw [C2 (by omega)],hc'⟩
abbrev Sm (n:Nat):Prop:=n≤9223372036854775807
theorem A2j (s:D7) (hs:Sm s.size) (st:St):S P 120 [eS s] st fun v st'=>v=.bool (E7 s)∧st'=st:=by
 refine A8 [] B9 mixed Tryz.func120 (by rfl) rfl rfl rfl ?_;conv=>whnf
 refine lp s.size [0,3] (fun i vs st'=>(∀ k,k<i→okc (chr s k)=true)∧vs=[eS s,eI i]∧st'=st) ?_ ?_
 ·conv=>whnf
  exact ⟨fun k hk=>absurd hk (by omega),rfl,rfl⟩
 ·rintro i vs st' hi ⟨hok,rfl,rfl⟩
  conv=>whnf
  cases h:decide ((i:Int)<(s.size:Int))
  ·obtain rfl:=E0 h hi
   have e:E7 s=(decide ((s.size:Int)≥1)&&decide ((s.size:Int)≤12)):=by
    unfold E7
    rw [A4F hok,Bool.and_true]
    congr 1<;>exact decide_eq_decide.2 (by omega)
   rw [e];conv=>whnf
   refine C0 (fun h1=>?_) (fun h1=>?_)<;>rw [h1]<;>(conv=>whnf)<;>exact ⟨rfl,rfl⟩
  ·have hi':=G7 h
   have no:okc (chr s i)=false→E7 s=false:=fun h=>by unfold E7;rw [A2L hi' h,Bool.and_false]
   have yes:okc (chr s i)=true→∀ k,k<i+1→okc (chr s k)=true:=fun h=>K9 hok h
   conv=>whnf
   refine C0L (i:=i) rfl hi' ?_
   generalize chr s i=c at *
   repeat' ((conv=>whnf);refine C0 (fun h=>?_) (fun h=>?_)<;>rw [h])
   all_goals (conv=>whnf)
   all_goals first
    | (refine ⟨?_,rfl⟩
       rw [no (by rw [←Bool.not_eq_true,A7S];simp only [Bool.not_eq_true',Bool.not_eq_false',beq_iff_eq,beq_eq_false_iff_ne,ne_eq,decide_eq_true_eq,decide_eq_false_iff_not] at *;omega)]
       rfl)
    | (refine ⟨rfl,?_⟩
       conv=>whnf
       exact nx hi' ⟨yes ((A7S c).2 (by simp only [Bool.not_eq_true',Bool.not_eq_false',beq_iff_eq,beq_eq_false_iff_ne,ne_eq,decide_eq_true_eq,decide_eq_false_iff_not] at *;omega)),by rw [C2 (by omega)],rfl⟩)
theorem A1m (x m:Int) (st:St):S P 158 [eI x,eI m] st fun v st'=>v=.bool (P7 0 m x)∧st'=st:=by
 refine A8 [] B9 mixed Tryz.func158 (by rfl) rfl rfl rfl ?_;conv=>whnf
 unfold P7
 refine C0 (fun h=>?_) (fun h=>?_)<;>rw [h]<;>(conv=>whnf)<;>exact ⟨rfl,rfl⟩
theorem B4C (l:List D7) (s:D7) (hl:Sm l.length) (st:St):S P 162 [D9 l,eS s] st fun v st'=>v=.bool (l.any fun y=>y.toList==s.toList)∧st'=st:=by
 refine A8 [] B9 mixed Tryz.func162 (by rfl) rfl rfl rfl ?_;conv=>whnf
 refine lp l.length [0,1,5] (fun i vs st'=>(∀ k,k<i→((l.getD k default).toList==s.toList)=false)∧vs=[D9 l,eS s,eI i]∧st'=st) ?_ ?_
 ·conv=>whnf
  exact ⟨fun k hk=>absurd hk (by omega),rfl,rfl⟩
 ·rintro i vs st' hi ⟨hok,rfl,rfl⟩
  conv=>whnf
  cases h:decide ((i:Int)<(l.length:Int))
  ·obtain rfl:=E0 h hi
   conv=>whnf
   refine ⟨?_,rfl⟩
   rw [List.any_eq_false.2 fun x hx=>by obtain ⟨k,hk,rfl⟩:=F0 hx;rw [hok k hk];simp];rfl
  ·have hi':=G7 h
   conv=>whnf
   refine ⟨rfl,⟨by omega,by omega⟩,?_⟩;conv=>whnf
   cases h1:((l.getD (i:Int).toNat default).toList==s.toList)
   ·conv=>whnf
    refine ⟨rfl,?_⟩;conv=>whnf
    exact nx hi' ⟨K9 hok h1,by rw [C2 (by omega)],rfl⟩
   ·conv=>whnf
    refine ⟨?_,rfl⟩
    rw [List.any_eq_true.2 ⟨_,B4 hi',h1⟩];rfl
theorem B5G (a b:D7):(Op.bytesLess a.toList b.toList||a.toList==b.toList)=!slt b a:=by
 show (slt a b||_)=_
 cases h:slt a b with
 | true=>rw [A4R h];rfl
 | false =>
  cases h2:slt b a with
  | true =>
   rw [Bool.false_or,Bool.not_true,beq_eq_false_iff_ne]
   intro e
   rw [B0C e.symm e,h] at h2;cases h2
  | false=>rw [Bool.false_or,beq_iff_eq.2 (A4S h h2)];rfl
theorem A9g (l:List D7) (m:Int) (hl:Sm l.length) (hs:∀ s∈l,Sm s.size) (st:St):S P 160 [D9 l,eI m] st fun v st'=>v=.bool (X6 l&&decide ((l.length:Int)≤m))∧st'=st:=by
 have hN:X6 l=I2 l fun k x=>E7 x&&K7 l k:=by
  unfold X6 V7 I2
  rw [←Bool.coe_iff_coe]
  simp only [Bool.and_eq_true,List.all_eq_true,List.mem_range,Bool.not_eq_true',List.any_eq_false,Bool.not_eq_true,Bool.not_eq_false']
  exact ⟨fun ⟨a,b⟩ k hk=>⟨Bool.not_eq_false _▸b _ (B4 hk),a k hk⟩,fun h=>⟨fun k hk=>(h k hk).2,fun x hx=>by obtain ⟨k,hk,rfl⟩:=F0 hx;rw [(h k hk).1];simp⟩⟩
 rw [hN]
 refine A8 [] B9 mixed Tryz.func160 (by rfl) rfl rfl rfl ?_;conv=>whnf
 refine lp l.length [0,1,5] (fun i vs st'=>(∀ k,k<i→(E7 (l.getD k default)&&K7 l k)=true)∧vs=[D9 l,eI m,eI i]∧st'=st) ?_ ?_
 ·conv=>whnf
  exact ⟨fun k hk=>absurd hk (by omega),rfl,rfl⟩
 ·rintro i vs st' hi ⟨hok,rfl,rfl⟩
  conv=>whnf
  cases h:decide ((i:Int)<(l.length:Int))
  ·obtain rfl:=E0 h hi
   conv=>whnf
   rw [I0 hok]
   exact ⟨rfl,rfl⟩
  ·have hi':=G7 h
   have yes:(E7 (l.getD (i:Int).toNat default)&&K7 l i)=true→∀ k,k<i+1→(E7 (l.getD k default)&&K7 l k)=true:=fun h=>K9 hok h
   have no:(E7 (l.getD (i:Int).toNat default)&&K7 l i)=false→(I2 l fun k x=>E7 x&&K7 l k)=false:=fun h=>R4 hi' h
   conv=>whnf
   refine ⟨[],[],List.range 22,by kernel_rfl,?_⟩;conv=>whnf
   refine ⟨rfl,⟨by omega,by omega⟩,?_⟩;conv=>whnf
   have n1:=A2j (l.getD (i:Int).toNat default) (hs _ (B4 hi')) st'
   generalize E7 (l.getD (i:Int).toNat default)=b1 at n1 no yes
   refine ⟨_,D3 n1,?_⟩;conv=>whnf
   cases b1
   ·conv=>whnf
    rw [no rfl]
    exact ⟨rfl,rfl⟩
   ·rw [Bool.true_and] at no yes;conv=>whnf
    cases h2:decide ((i:Int)>0)
    ·have h0:i=0:=by have:=of_decide_eq_false h2;omega
     conv=>whnf
     refine ⟨rfl,?_⟩;conv=>whnf
     exact nx hi' ⟨yes (by rw [h0];rfl),by rw [C2 (by omega)],rfl⟩
    ·have hp:0<i:=by have:=of_decide_eq_true h2;omega
     have hw:IntKind.i64.wrap ((i:Int) - 1)=((i - 1:Nat):Int):=by rw [A7 (by omega) (by omega)];omega
     have e:K7 l i=!(Op.bytesLess (l.getD (i:Int).toNat default).toList (l.getD ((i - 1:Nat):Int).toNat default).toList||(l.getD (i:Int).toNat default).toList==(l.getD ((i - 1:Nat):Int).toNat default).toList):=by
      rw [B5G,Bool.not_not]
      unfold K7
      rw [Int.toNat_natCast,Int.toNat_natCast,beq_false_of_ne (by omega),Bool.false_or]
     rw [e] at yes no;conv=>whnf
     refine ⟨rfl,⟨by omega,by omega⟩,?_⟩;conv=>whnf
     rw [hw]
     refine ⟨rfl,⟨by omega,by omega⟩,?_⟩;conv=>whnf
     generalize (Op.bytesLess (l.getD (i:Int).toNat default).toList (l.getD ((i - 1:Nat):Int).toNat default).toList||(l.getD (i:Int).toNat default).toList==(l.getD ((i - 1:Nat):Int).toNat default).toList)=b at *
     cases b
     ·conv=>whnf
      refine ⟨rfl,?_⟩;conv=>whnf
      exact nx hi' ⟨yes rfl,by rw [C2 (by omega)],rfl⟩
     ·conv=>whnf
      rw [no rfl]
      exact ⟨rfl,rfl⟩
structure A0l (s:Q8):Prop where
 n1:Sm s.skus.length
 n2:Sm s.cats.length
 s1:∀ x∈s.skus,Sm x.size
 s2:∀ x∈s.cats,Sm x.size
theorem B3g (s:Q8) (h:A0l s) (st:St):S P 303 [A2p s] st fun v st'=>v=.bool (V8 s)∧st'=st:=by
 refine A8 [1] B9 mixed Tryz.func303 (by rfl) rfl rfl rfl ?_;conv=>whnf
 refine B0 (A9g s.skus 20 h.n1 h.s1 st) ?_
 have e:V8 s=((X6 s.skus&&decide ((s.skus.length:Int)≤20))&&(X6 s.cats&&decide ((s.cats.length:Int)≤20))):=by
  unfold V8
  rw [Bool.and_comm (decide _),Bool.and_comm (decide (s.cats.length≤20))]
  rw [show decide ((s.skus.length:Int)≤20)=decide (s.skus.length≤20) from decide_eq_decide.2 (by omega),show decide ((s.cats.length:Int)≤20)=decide (s.cats.length≤20) from decide_eq_decide.2 (by omega)]
 rw [e]
 cases (X6 s.skus&&decide ((s.skus.length:Int)≤20))
 ·conv=>whnf
  exact ⟨rfl,rfl⟩
 ·conv=>whnf
  refine B0 (A9g s.cats 20 h.n2 h.s2 st) ?_;conv=>whnf
  exact ⟨rfl,rfl⟩
theorem B5C (l:List Ab.Item) (s:D7) (hl:Sm l.length) (st:St):S P 109 [B2 4 F4 l,eS s] st fun v st'=>v=eI (A0B l s)∧st'=st:=by
 refine A8 [] B9 mixed Tryz.func109 (by rfl) rfl rfl rfl ?_;conv=>whnf
 refine lp l.length [0,1,5] (fun i vs st'=>(∀ k,k<i→((l.getD k default).sku.toList==s.toList)=false)∧vs=[B2 4 F4 l,eS s,eI i]∧st'=st) ?_ ?_
 ·conv=>whnf
  exact ⟨fun k hk=>absurd hk (by omega),rfl,rfl⟩
 ·rintro i vs st' hi ⟨hok,rfl,rfl⟩
  conv=>whnf
  cases h:decide ((i:Int)<(l.length:Int))
  ·obtain rfl:=E0 h hi
   conv=>whnf
   exact ⟨by rw [show A0B l s = -1 from Q5 fun k hk=>hok k hk];rfl,rfl⟩
  ·have hi':=G7 h
   conv=>whnf
   refine ⟨rfl,⟨by omega,by omega⟩,?_⟩;conv=>whnf
   refine C0 (fun h1=>?_) (fun h1=>?_)<;>rw [h1]
   ·conv=>whnf
    exact ⟨by rw [show A0B l s=i from A0J hi' hok h1];rfl,rfl⟩
   ·conv=>whnf
    refine ⟨rfl,?_⟩;conv=>whnf
    exact nx hi' ⟨K9 hok h1,by rw [C2 (by omega)],rfl⟩
theorem B1B {L:List D7} {i:Nat} (hp:0<i):K7 L i=!(Op.bytesLess (L.getD i default).toList (L.getD (i - 1) default).toList||(L.getD i default).toList==(L.getD (i - 1) default).toList):=by
 rw [B5G,Bool.not_not]
 unfold K7
 rw [beq_false_of_ne (by omega),Bool.false_or]
theorem A5j {i:Nat} (h:0<i) (h2:i<9223372036854775807):IntKind.i64.wrap ((i:Int) - 1)=((i - 1:Nat):Int):=by rw [A7 (by omega) (by omega)];omega
def A3X (l:List Ab.Item) (k:Nat) (x:Ab.Item):Bool:=E7 x.sku&&E7 x.cat&&P7 0 1000000000 x.price&&K7 (l.map Ab.Item.sku) k
theorem B8X (l:List Ab.Item) (hl:Sm l.length) (hs:∀ x∈l,Sm x.sku.size∧Sm x.cat.size) (st:St):S P 155 [B2 4 F4 l] st fun v st'=>v=.bool (A0p l)∧st'=st:=by
 have hN:A0p l=(I2 l (A3X l)&&decide ((l.length:Int)≤500)):=by
  unfold A0p I2 V7 A3X A2J P7
  rw [List.length_map,←Bool.coe_iff_coe]
  simp only [Bool.and_eq_true,List.all_eq_true,List.mem_range,Bool.not_eq_true',Bool.or_eq_false_iff,Bool.not_eq_false',decide_eq_true_eq,decide_eq_false_iff_not]
  constructor
  ·rintro ⟨h1,h2,h3⟩
   exact ⟨fun k hk=>⟨⟨⟨(h2 k hk).1.1.1,(h2 k hk).1.1.2⟩,by have:=(h2 k hk).1.2;have:=(h2 k hk).2;omega⟩,h3 k hk⟩,by omega⟩
  ·rintro ⟨h1,h2⟩
   exact ⟨by omega,fun k hk=>⟨⟨⟨(h1 k hk).1.1.1,(h1 k hk).1.1.2⟩,by have:=(h1 k hk).1.2;omega⟩,by have:=(h1 k hk).1.2;omega⟩,fun k hk=>(h1 k hk).2⟩
 rw [hN]
 refine A8 [] B9 mixed Tryz.func155 (by rfl) rfl rfl rfl ?_;conv=>whnf
 refine lp l.length [0,3] (fun i vs st'=>(∀ k,k<i→A3X l k (l.getD k default)=true)∧vs=[B2 4 F4 l,eI i]∧st'=st) ?_ ?_
 ·conv=>whnf
  exact ⟨fun k hk=>absurd hk (by omega),rfl,rfl⟩
 ·rintro i vs st' hi ⟨hok,rfl,rfl⟩
  conv=>whnf
  cases h:decide ((i:Int)<(l.length:Int))
  ·obtain rfl:=E0 h hi
   conv=>whnf
   rw [I0 hok]
   exact ⟨rfl,rfl⟩
  ·have hi':=G7 h
   have yes:A3X l i (l.getD (i:Int).toNat default)=true→∀ k,k<i+1→A3X l k (l.getD k default)=true:=fun h=>K9 hok h
   have no:A3X l i (l.getD (i:Int).toNat default)=false→I2 l (A3X l)=false:=fun h=>R4 hi' h
   have hm:=hs _ (B4 hi')
   have n1:=A2j (l.getD (i:Int).toNat default).sku hm.1 st'
   have n2:=A2j (l.getD (i:Int).toNat default).cat hm.2 st'
   have n3:=A1m (l.getD (i:Int).toNat default).price 1000000000 st'
   have e:0<i→K7 (l.map Ab.Item.sku) i=!(Op.bytesLess (l.getD i default).sku.toList (l.getD (i - 1) default).sku.toList||(l.getD i default).sku.toList==(l.getD (i - 1) default).sku.toList):=fun hp=>by
    rw [B1B hp]
    have e1:(l.map Ab.Item.sku).getD i default=(l.getD i default).sku:=E1 Ab.Item.sku l hi'
    have e2:(l.map Ab.Item.sku).getD (i - 1) default=(l.getD (i - 1) default).sku:=E1 Ab.Item.sku l (by omega)
    rw [e1,e2]
   have e0:i=0→K7 (l.map Ab.Item.sku) i=true:=fun h=>by rw [h];rfl
   rw [show A3X l i (l.getD (i:Int).toNat default)=(E7 (l.getD (i:Int).toNat default).sku&&E7 (l.getD (i:Int).toNat default).cat&&P7 0 1000000000 (l.getD (i:Int).toNat default).price&&K7 (l.map Ab.Item.sku) i) from rfl] at yes no
   generalize E7 (l.getD (i:Int).toNat default).sku=b1 at n1 yes no
   generalize E7 (l.getD (i:Int).toNat default).cat=b2 at n2 yes no
   generalize P7 0 1000000000 (l.getD (i:Int).toNat default).price=b3 at n3 yes no
   conv=>whnf
   refine ⟨[],[],List.range 43,by kernel_rfl,?_⟩
   cases h0:decide ((i:Int)>0)
   ·have h0':i=0:=by have:=of_decide_eq_false h0;omega
    replace e:=e0 h0'
    repeat' ((conv=>whnf);first | refine ⟨rfl,⟨by omega,by omega⟩,?_⟩ | refine ⟨_,D3 n1,?_⟩ | refine ⟨_,D3 n2,?_⟩ | refine ⟨_,D3 n3,?_⟩ | rw [h0] | cases b1 | cases b2 | cases b3)
    all_goals (conv=>whnf)
    all_goals first
     | (rw [no (by rfl)];exact ⟨rfl,rfl⟩)
     | (refine ⟨rfl,?_⟩;conv=>whnf
        exact nx hi' ⟨yes (by rw [e];rfl),by rw [C2 (by omega)],rfl⟩)
   ·have h0':0<i:=by have:=of_decide_eq_true h0;omega
    replace e:=e h0'
    have hw:=A5j h0' (by omega)
    repeat' ((conv=>whnf);first | refine ⟨rfl,⟨by omega,by omega⟩,?_⟩ | refine ⟨rfl,⟨by rw [hw];omega,by rw [hw];omega⟩,?_⟩ | refine ⟨_,D3 n1,?_⟩ | refine ⟨_,D3 n2,?_⟩ | refine ⟨_,D3 n3,?_⟩ | rw [h0] | cases b1 | cases b2 | cases b3 | refine C0 (fun h=>?_) (fun h=>?_))
    all_goals (conv=>whnf)
    all_goals first
     | (rw [no (by rfl)];exact ⟨rfl,rfl⟩)
     | (rw [hw] at h;rw [no (by rw [e];exact congrArg not h)];exact ⟨rfl,rfl⟩)
     | (rw [hw] at h;refine ⟨rfl,?_⟩;conv=>whnf
        exact nx hi' ⟨yes (by rw [e];exact congrArg not h),by rw [C2 (by omega)],rfl⟩)
end Go.Proofs.YtbajhapmlfbelaaGreat
namespace Go.Ab
abbrev QE:=Int×Int
def H0 (a b:QE):Bool:=decide (a.1>b.1)||(a.1==b.1&&decide (a.2<b.2))
theorem A7e (a b:QE):H0 a b=true↔a.1>b.1∨(a.1=b.1∧a.2<b.2):=by simp [H0]
theorem R8 (a b:QE):H0 a b=false↔¬(a.1>b.1∨(a.1=b.1∧a.2<b.2)):=by rw [←A7e,Bool.not_eq_true]
theorem A0f {a b:QE} (h:H0 a b=true):H0 b a=false:=by rw [A7e] at h;rw [R8];omega
theorem A1u (a:QE):H0 a a=false:=by rw [R8];omega
theorem A0e {a b c:QE} (h:H0 a b=false) (k:H0 b c=false):H0 a c=false:=by rw [R8] at *;omega
theorem C2C {a b c:QE} (h:H0 a b=false) (k:H0 c b=true):H0 a c=false:=by rw [R8] at *;rw [A7e] at k;omega
theorem A7f {a b:QE} (h:H0 a b=false) (k:H0 b a=false):a=b:=by
 rw [R8] at *
 exact Prod.ext (by omega) (by omega)
abbrev at_ (l:List QE) (k:Nat):QE:=l.getD k default
def swp (l:List QE) (i j:Nat):List QE:=(l.set i (at_ l j)).set j (at_ l i)
theorem B1T (l:List QE) (i j:Nat):(swp l i j).length=l.length:=by simp [swp]
theorem A5G {l:List QE} {i j:Nat} (hi:i<l.length) (hj:j<l.length) (k:Nat):at_ (swp l i j) k=if k=j then at_ l i else if k=i then at_ l j else at_ l k:=by
 unfold swp at_
 simp only [List.getD_eq_getElem?_getD,List.getElem?_set,List.length_set]
 by_cases h1:k=j
 ·subst h1;simp [hj]
 ·rw [if_neg (fun e=>h1 e.symm),if_neg h1]
  by_cases h2:k=i
  ·subst h2;simp [hi]
  ·rw [if_neg (fun e=>h2 e.symm),if_neg h2]
theorem A9u {l:List QE} {i j:Nat} (hi:i<l.length) (hj:j<l.length):(swp l i j).Perm l:=by
 have e1:at_ l j=l[j]:=by simp [at_,hj]
 have e2:at_ l i=l[i]:=by simp [at_,hi]
 unfold swp
 rw [e1,e2]
 exact List.set_set_perm hi hj
def Nah (l:List QE) (c p:Nat):Prop:=H0 (at_ l c) (at_ l p)=false
def T3 (c:Nat):Nat:=(c - 1) / 2
def A3O (l:List QE) (m:Nat):Prop:=∀ c,0<c→c<m→Nah l c (T3 c)
structure Rise (l:List QE) (m j:Nat):Prop where
 a:∀ c,0<c→c<m→c≠j→Nah l c (T3 c)
 b:∀ c,0<c→c<m→T3 c=j→0<j→Nah l c (T3 j)
structure Sink (l:List QE) (m i:Nat):Prop where
 a:∀ c,0<c→c<m→T3 c≠i→Nah l c (T3 c)
 b:∀ c,0<c→c<m→T3 c=i→0<i→Nah l c (T3 i)
theorem Rise.done {l:List QE} {m j:Nat} (h:Rise l m j) (hj:j=0∨Nah l j (T3 j)):A3O l m:=fun c h0 hc=>by
 by_cases e:c=j
 ·subst e;rcases hj with hj | hj
  ·omega
  ·exact hj
 ·exact h.a c h0 hc e
theorem Rise.step {l:List QE} {m j:Nat} (h:Rise l m j) (hm:m≤l.length) (hj:j<m) (h0:0<j) (ha:H0 (at_ l j) (at_ l (T3 j))=true):Rise (swp l (T3 j) j) m (T3 j):=by
 have hp:T3 j<j:=by unfold T3;omega
 have sw:=A5G (l:=l) (i:=T3 j) (j:=j) (by omega) (by omega)
 refine ⟨fun c hc0 hcm hne=>?_,fun c hc0 hcm hpc hp0=>?_⟩
 ·have hpc:T3 c<c:=by unfold T3;omega
  unfold Nah
  rw [sw c,sw (T3 c)]
  by_cases ecj:c=j
  ·subst ecj
   rw [if_pos rfl,if_neg (by omega),if_pos rfl]
   exact A0f ha
  ·rw [if_neg ecj,if_neg hne]
   by_cases epj:T3 c=j
   ·rw [if_pos epj];exact h.b c hc0 hcm epj h0
   ·rw [if_neg epj]
    by_cases epi:T3 c=T3 j
    ·rw [if_pos epi]
     have:=h.a c hc0 hcm ecj
     unfold Nah at this;rw [epi] at this
     exact C2C this ha
    ·rw [if_neg epi];exact h.a c hc0 hcm ecj
 ·have hpp:T3 (T3 j)<T3 j:=by unfold T3 at *;omega
  have hpj:=h.a (T3 j) hp0 (by omega) (by omega)
  unfold Nah at *
  rw [sw c,sw (T3 (T3 j)),if_neg (show ¬ T3 (T3 j)=j by omega),if_neg (show ¬ T3 (T3 j)=T3 j by omega)]
  by_cases ecj:c=j
  ·rw [if_pos ecj];exact hpj
  ·rw [if_neg ecj,if_neg (show ¬ c=T3 j by unfold T3 at *;omega)]
   have:=h.a c hc0 hcm ecj
   unfold Nah at this;rw [hpc] at this
   exact A0e this hpj
theorem Sink.done {l:List QE} {m i:Nat} (h:Sink l m i) (hc:∀ c,0<c→c<m→T3 c=i→Nah l c i):A3O l m:=fun c h0 hcm=>by
 by_cases e:T3 c=i
 ·rw [e];exact hc c h0 hcm e
 ·exact h.a c h0 hcm e
theorem Sink.step {l:List QE} {m i j:Nat} (h:Sink l m i) (hm:m≤l.length) (hj:j<m) (h0:0<j) (hp:T3 j=i) (ha:H0 (at_ l j) (at_ l i)=true)
  (hb:∀ c,0<c→c<m→T3 c=i→Nah l c j):Sink (swp l i j) m j:=by
 have hij:i<j:=by rw [←hp];unfold T3;omega
 have sw:=A5G (l:=l) (i:=i) (j:=j) (by omega) (by omega)
 refine ⟨fun c hc0 hcm hne=>?_,fun c hc0 hcm hpc hp0=>?_⟩
 ·have hpc:T3 c<c:=by unfold T3;omega
  unfold Nah
  rw [sw c,sw (T3 c),if_neg hne]
  by_cases ecj:c=j
  ·subst ecj
   rw [if_pos rfl,if_pos hp]
   exact A0f ha
  ·rw [if_neg ecj]
   by_cases epi:T3 c=i
   ·rw [if_pos epi,if_neg (by omega)]
    exact hb c hc0 hcm epi
   ·rw [if_neg epi]
    by_cases eci:c=i
    ·rw [if_pos eci]
     subst eci
     exact h.b j h0 hj hp hc0
    ·rw [if_neg eci];exact h.a c hc0 hcm epi
 ·have:j<c:=by unfold T3 at hpc;omega
  unfold Nah
  rw [hp,sw c,sw i,if_neg (show ¬ c=j by omega),if_neg (show ¬ c=i by omega),if_neg (show ¬ i=j by omega),if_pos rfl]
  have:=h.a c hc0 hcm (by omega)
  unfold Nah at this;rw [hpc] at this;exact this
theorem A3O.top {l:List QE} {m:Nat} (h:A3O l m):∀ k,k<m→Nah l k 0:=by
 intro k
 induction k using Nat.strongRecOn with
 | _ k ih =>
  intro hk
  rcases Nat.eq_zero_or_pos k with e | e
  ·subst e;exact A1u _
  ·have hp:T3 k<k:=by unfold T3;omega
   exact A0e (h k e hk) (ih (T3 k) hp (by omega))
theorem A3O.up {l:List QE} {m:Nat} (h:A3O l m) (x:QE) (hm:m=l.length):Rise (l++[x]) (m+1) m:=by
 have old:∀ k,k<m→at_ (l++[x]) k=at_ l k:=fun k hk=>by
  unfold at_;rw [List.getD_eq_getElem?_getD,List.getD_eq_getElem?_getD,List.getElem?_append_left (by omega)]
 refine ⟨fun c h0 hc hne=>?_,fun c h0 hc hpc hm0=>?_⟩
 ·have hp:T3 c<c:=by unfold T3;omega
  unfold Nah
  rw [old c (by omega),old (T3 c) (by omega)]
  exact h c h0 (by omega)
 ·unfold T3 at hpc;omega
theorem A3O.down {l:List QE} {m:Nat} (h:A3O l (m+1)) (hm:m<l.length):Sink (swp l 0 m) m 0:=by
 have sw:=A5G (l:=l) (i:=0) (j:=m) (by omega) (by omega)
 refine ⟨fun c h0 hc hne=>?_,fun c h0 hc hpc h00=>by omega⟩
 have hp:T3 c<c:=by unfold T3;omega
 unfold Nah
 rw [sw c,sw (T3 c),if_neg (by omega),if_neg (by omega),if_neg (by omega),if_neg hne]
 exact h c h0 (by omega)
end Go.Ab
namespace Go.Proofs.YtbajhapmlfbelaaGreat
open Go Go.Ab
attribute [local irreducible] upd del
def A6a (x:QE):AV:=.agg [eI x.1,eI x.2]
def A1C (st:St) (b:Nat) (l:List QE):Prop:=∃ f,st b=some ⟨293,2,l.length,f⟩∧∀ k,k<l.length→f k=A6a (at_ l k)
theorem A8y (b:Nat) (l:List QE) (n i j:Nat) (st:St) (h:A1C st b l) (hn:n≤l.length) (hi:i<n) (hj:j<n) :
  S P 370 [.own 2 b 0 n,eI i,eI j] st fun v st'=>v=.bool (H0 (at_ l i) (at_ l j))∧st'=st:=by
 obtain ⟨f,hst,hf⟩:=h
 refine A8 [] B9 mixed Tryz.func370 (by rfl) rfl rfl rfl ?_;conv=>whnf
 refine ⟨[],[],[0,1,2,3,4,5,6,7,8,9,10,11,12,13,14,15,16,17,18,19,20,21,22,23,24,25,26,27,28,29,30,31,32,33,34,35,36,37],by kernel_rfl,?_⟩;conv=>whnf
 have fi:f (0+(i:Int).toNat)=A6a (at_ l i):=by rw [Nat.zero_add];exact hf i (by omega)
 have fj:f (0+(j:Int).toNat)=A6a (at_ l j):=by rw [Nat.zero_add];exact hf j (by omega)
 have li:0+(i:Int).toNat<l.length:=by omega
 have lj:0+(j:Int).toNat<l.length:=by omega
 refine ⟨rfl,⟨by omega,by omega⟩,?_⟩;conv=>whnf
 refine F7 hst rfl li fi ?_;conv=>whnf
 refine ⟨rfl,⟨by omega,by omega⟩,?_⟩;conv=>whnf
 refine F7 hst rfl lj fj ?_;conv=>whnf
 unfold H0
 refine C0 (fun h1=>?_) (fun h1=>?_)<;>rw [h1]
 ·conv=>whnf
  exact ⟨rfl,rfl⟩
 conv=>whnf
 refine ⟨rfl,⟨by omega,by omega⟩,?_⟩;conv=>whnf
 refine F7 hst rfl li fi ?_;conv=>whnf
 refine ⟨rfl,⟨by omega,by omega⟩,?_⟩;conv=>whnf
 refine F7 hst rfl lj fj ?_;conv=>whnf
 refine C0 (fun h2=>?_) (fun h2=>?_)<;>rw [h2]
 ·conv=>whnf
  refine ⟨rfl,⟨by omega,by omega⟩,?_⟩;conv=>whnf
  refine F7 hst rfl li fi ?_;conv=>whnf
  refine ⟨rfl,⟨by omega,by omega⟩,?_⟩;conv=>whnf
  refine F7 hst rfl lj fj ?_;conv=>whnf
  exact ⟨rfl,rfl⟩
 ·conv=>whnf
  exact ⟨rfl,rfl⟩
theorem len_S (b n:Nat) (st:St):S P 369 [.own 2 b 0 n] st fun v st'=>v=eI n∧st'=st:=by
 refine A8 [] B9 mixed Tryz.func369 (by rfl) rfl rfl rfl ?_;conv=>whnf
 exact ⟨rfl,rfl⟩
theorem B4N (b:Nat) (l:List QE) (n i j:Nat) (st:St) (h:A1C st b l) (hn:n≤l.length) (hi:i<n) (hj:j<n) :
  S P 371 [.own 2 b 0 n,eI i,eI j] st fun v st'=>v=.tuple []∧A1C st' b (swp l i j)∧∀ c,c≠b→st' c=st c:=by
 obtain ⟨f,hst,hf⟩:=h
 refine A8 [] B9 mixed Tryz.func371 (by rfl) rfl rfl rfl ?_;conv=>whnf
 have fi:f (0+(i:Int).toNat)=A6a (at_ l i):=by rw [Nat.zero_add];exact hf i (by omega)
 have fj:f (0+(j:Int).toNat)=A6a (at_ l j):=by rw [Nat.zero_add];exact hf j (by omega)
 have li:0+(i:Int).toNat<l.length:=by omega
 have lj:0+(j:Int).toNat<l.length:=by omega
 have ei:0+(i:Int).toNat=i:=by omega
 have ej:0+(j:Int).toNat=j:=by omega
 have hfj:H2 f (0+(i:Int).toNat) (N8 (A6a (at_ l i)) 0 (cellsOf (A6a (at_ l j)))) (0+(j:Int).toNat)=A6a (at_ l j):=by
  by_cases h:j=i
  ·subst h;rw [A6];rfl
  ·rw [G2 (by omega)];exact fj
 refine ⟨[13,15],[],[0,1,2,3,4,5,6,7,8,9,10,11,12,13,14,15],by kernel_rfl,?_⟩;conv=>whnf
 refine ⟨rfl,⟨by omega,by omega⟩,?_⟩;conv=>whnf
 refine F7 hst rfl lj fj ?_;conv=>whnf
 refine ⟨rfl,⟨by omega,by omega⟩,?_⟩;conv=>whnf
 refine F7 hst rfl li fi ?_;conv=>whnf
 refine ⟨rfl,⟨by omega,by omega⟩,?_⟩;conv=>whnf
 refine K8 hst rfl li fi (by rfl) ?_;conv=>whnf
 refine ⟨rfl,⟨by omega,by omega⟩,?_⟩;conv=>whnf
 refine K8 (v:=A6a (at_ l j)) (A0 ..) rfl lj hfj (by rfl) ?_;conv=>whnf
 refine ⟨rfl,⟨_,by rw [A0,B1T],fun k hk=>?_⟩,fun c hc=>by rw [B1 hc,B1 hc]⟩
 rw [B1T] at hk
 rw [A5G (by omega) (by omega)]
 by_cases h1:k=j
 ·subst h1
  rw [if_pos rfl,ej,A6];rfl
 ·rw [if_neg h1,G2 (by omega)]
  by_cases h2:k=i
  ·subst h2
   rw [if_pos rfl,ei,A6];rfl
  ·rw [if_neg h2,G2 (by omega)];exact hf k hk
def A2X (st:St) (q:Nat) (sv:AV):Prop:=∃ f,st q=some ⟨289,1,1,f⟩∧f 0=.agg [sv]
abbrev hI (q:Nat):AV:=.iface 291 (.optr 1 q 0 0)
theorem A2X.frame {st st':St} {q b:Nat} {sv:AV} (h:A2X st q sv) (hqb:q≠b) (hf:∀ c,c≠b→st' c=st c):A2X st' q sv:=by
 obtain ⟨f,h1,h2⟩:=h
 exact ⟨f,by rw [hf q hqb];exact h1,h2⟩
theorem C6N (j:Nat) (hj:j<4611686018427387904):IntKind.i64.wrap ((IntKind.i64.wrap ((j:Int) - 1)).tdiv 2)=((T3 j:Nat):Int):=by
 rw [A7 (x:=(j:Int) - 1) (by omega) (by omega)]
 unfold T3
 rcases Nat.eq_zero_or_pos j with e | e
 ·subst e;rfl
 ·rw [Int.tdiv_eq_ediv_of_nonneg (by omega),A7 (by omega) (by omega)];omega
theorem C3F (q b:Nat) (l:List QE) (j:Nat) (st:St) (hq:A2X st q (.own 2 b 0 l.length)) (hqb:q≠b) (he:A1C st b l) (hr:Ab.Rise l l.length j) (hj:j<l.length) (hl:l.length<4611686018427387904) :
  S P 283 [hI q,eI j] st fun v st'=>v=.tuple []∧∃ l',l'.Perm l∧A3O l' l.length∧A1C st' b l'∧∀ c,c≠b→st' c=st c:=by
 refine A8 [] B9 mixed Tryz.func283 (by rfl) rfl rfl rfl ?_;conv=>whnf
 refine ⟨[0,1],fun m vs st'=>∃ (j:Nat) (l':List QE),l'.Perm l∧A1C st' b l'∧(∀ c,c≠b→st' c=st c)∧Ab.Rise l' l.length j∧j<l.length∧m=j∧vs=[hI q,eI j],?_,?_⟩
 ·conv=>whnf
  exact ⟨_,j,l,List.Perm.refl _,he,fun c _=>rfl,hr,hj,rfl,rfl⟩
 ·clear hr hj he
  rintro j vs st' ⟨_,l',hp,he,hfr,hr,hj,rfl,rfl⟩
  have hlen:l'.length=l.length:=hp.length_eq
  obtain ⟨f,hqs,hq0⟩:=hq.frame hqb hfr
  have hpj:T3 j≤j:=by unfold T3;omega
  conv=>whnf
  rw [C6N j (by omega)]
  refine C0 (fun h1=>?_) (fun h1=>?_)<;>rw [h1]
  ·have:j=0:=by
    have:=of_decide_eq_true h1
    unfold T3 at this;omega
   conv=>whnf
   exact ⟨rfl,l',hp,hr.done (.inl this),he,hfr⟩
  ·have hj0:0<j:=by
    rcases Nat.eq_zero_or_pos j with e | e
    ·subst e;cases h1
    ·exact e
   conv=>whnf
   refine F7 hqs rfl (by omega) hq0 ?_;conv=>whnf
   refine B0 (A8y b l' l.length j (T3 j) _ he (by omega) (by omega) (by omega)) ?_;conv=>whnf
   refine C0 (fun h2=>?_) (fun h2=>?_)<;>rw [h2]
   ·conv=>whnf
    exact ⟨rfl,l',hp,hr.done (.inr (by have:=h2;simp only [Bool.not_eq_true'] at this;exact this)),he,hfr⟩
   ·have h2':H0 (at_ l' j) (at_ l' (T3 j))=true:=by have:=h2;simp only [Bool.not_eq_false'] at this;exact this
    have hlt:T3 j<j:=by unfold T3;omega
    conv=>whnf
    refine F7 hqs rfl (by omega) hq0 ?_;conv=>whnf
    refine call (B4N b l' l.length (T3 j) j _ he (by omega) (by omega) (by omega)) (fun v st'' hv=>?_)
    obtain ⟨rfl,he',hfr'⟩:=hv
    conv=>whnf
    refine ⟨rfl,?_⟩;conv=>whnf
    exact ⟨T3 j,hlt,T3 j,swp l' (T3 j) j,(A9u (by omega) (by omega)).trans hp,he',fun c hc=>(hfr' c hc).trans (hfr c hc),hr.step (by omega) hj hj0 h2',by omega,rfl,rfl⟩
theorem j1W (i:Nat) (hi:i<2305843009213693952):IntKind.i64.wrap (IntKind.i64.wrap (2 * (i:Int))+1)=((2 * i+1:Nat):Int):=by
 rw [A7 (x:=2 * (i:Int)) (by omega) (by omega),A7 (by omega) (by omega)];omega
theorem C0H (q b:Nat) (l:List QE) (n m:Nat) (st:St) (hq:A2X st q (.own 2 b 0 n)) (hqb:q≠b) (he:A1C st b l) (hs:Ab.Sink l m 0) (hmn:m≤n) (hn:n≤l.length) (hl:l.length<2305843009213693952) :
  S P 284 [hI q,eI 0,eI m] st fun v st'=>(∃ x,v=.bool x)∧∃ l',l'.Perm l∧(∀ k,m≤k→at_ l' k=at_ l k)∧A3O l' m∧A1C st' b l'∧∀ c,c≠b→st' c=st c:=by
 refine A8 [] B9 mixed Tryz.func284 (by rfl) rfl rfl rfl ?_;conv=>whnf
 refine ⟨[0,1,2,7],fun t vs st'=>∃ (i:Nat) (l':List QE),l'.Perm l∧(∀ k,m≤k→at_ l' k=at_ l k)∧A1C st' b l'∧(∀ c,c≠b→st' c=st c)∧Ab.Sink l' m i∧i≤l.length∧t=l.length - i∧vs=[hI q,eI 0,eI m,eI i],?_,?_⟩
 ·conv=>whnf
  exact ⟨_,0,l,List.Perm.refl _,fun _ _=>rfl,he,fun c _=>rfl,hs,Nat.zero_le _,rfl,rfl⟩
 ·clear hs he
  rintro t vs st' ⟨i,l',hp,hk,he,hfr,hs,hi,rfl,rfl⟩
  have hlen:l'.length=l.length:=hp.length_eq
  obtain ⟨f,hqs,hq0⟩:=hq.frame hqb hfr
  have kid:∀ c,0<c→(T3 c=i↔c=2 * i+1∨c=2 * i+2):=fun c hc=>by unfold T3;omega
  conv=>whnf
  rw [j1W i (by omega)]
  refine C0 (fun h1=>?_) (fun h1=>?_)<;>rw [h1]<;>simp only [decide_eq_true_eq,decide_eq_false_iff_not] at h1
  ·conv=>whnf
   exact ⟨⟨_,rfl⟩,l',hp,hk,hs.done (fun c hc0 hcm hpc=>by have:=(kid c hc0).1 hpc;omega),he,hfr⟩
  have him:2 * i+1<m:=by omega
  conv=>whnf
  have w2:IntKind.i64.wrap (((2 * i+1:Nat):Int)+1)=((2 * i+2:Nat):Int):=by rw [A7 (by omega) (by omega)];omega
  rw [w2]
  -- behind the choice of a child
  have tail:∀ (j:Nat),0<j→j<m→T3 j=i→(∀ c,0<c→c<m→T3 c=i→Nah l' c j)→∀ (K:KK),(∀ v st'' l'',v=.tuple []→l''.Perm l→(∀ k,m≤k→at_ l'' k=at_ l k)→A1C st'' b l''→(∀ c,c≠b→st'' c=st c)→H0 (at_ l' j) (at_ l' i)=true→Ab.Sink l'' m j→K v st'')→H0 (at_ l' j) (at_ l' i)=true→A1c P 371 [.own 2 b 0 n,eI i,eI j] st' K:=by
   intro j hj0 hjm hpj hbest K hK hpr
   have hij:i<j:=by rw [←hpj];unfold T3;omega
   refine call (B4N b l' n i j _ he (by omega) (by omega) (by omega)) (fun v st'' hv=>?_)
   obtain ⟨rfl,he',hfr'⟩:=hv
   refine hK _ _ (swp l' i j) rfl ((A9u (by omega) (by omega)).trans hp) (fun k hkm=>?_) he' (fun c hc=>(hfr' c hc).trans (hfr c hc)) hpr (hs.step (by omega) hjm hj0 hpj hpr hbest)
   rw [A5G (by omega) (by omega),if_neg (by omega),if_neg (by omega)];exact hk k hkm
  refine C0 (fun h3=>?_) (fun h3=>?_)<;>rw [h3]<;>simp only [decide_eq_true_eq,decide_eq_false_iff_not] at h3
  ·conv=>whnf
   refine F7 hqs rfl (by omega) hq0 ?_;conv=>whnf
   refine B0 (A8y b l' n (2 * i+2) (2 * i+1) _ he (by omega) (by omega) (by omega)) ?_;conv=>whnf
   refine C0 (fun h4=>?_) (fun h4=>?_)<;>rw [h4]
   ·have hbest:∀ c,0<c→c<m→T3 c=i→Nah l' c (2 * i+2):=fun c hc0 hcm hpc=>by
     rcases (kid c hc0).1 hpc with e | e
     ·subst e;exact A0f h4
     ·subst e;exact A1u _
    conv=>whnf
    refine F7 hqs rfl (by omega) hq0 ?_;conv=>whnf
    refine B0 (A8y b l' n (2 * i+2) i _ he (by omega) (by omega) (by omega)) ?_;conv=>whnf
    refine C0 (fun h5=>?_) (fun h5=>?_)<;>rw [h5]
    ·conv=>whnf
     exact ⟨⟨_,rfl⟩,l',hp,hk,hs.done (fun c hc0 hcm hpc=>A0e (hbest c hc0 hcm hpc) (show Nah l' (2 * i+2) i by have:=h5;simp only [Bool.not_eq_true'] at this;exact this)),he,hfr⟩
    ·conv=>whnf
     refine F7 hqs rfl (by omega) hq0 ?_;conv=>whnf
     refine tail (2 * i+2) (by omega) (by omega) ((kid _ (by omega)).2 (.inr rfl)) hbest _ (fun v st'' l'' hv hp' hk' he' hfr' hpr hs'=>?_) (by have:=h5;simp only [Bool.not_eq_false'] at this;exact this)
     subst hv;conv=>whnf
     refine ⟨rfl,?_⟩;conv=>whnf
     exact ⟨l.length - (2 * i+2),by omega,2 * i+2,l'',hp',hk',he',hfr',hs',by omega,rfl,rfl⟩
   ·have hbest:∀ c,0<c→c<m→T3 c=i→Nah l' c (2 * i+1):=fun c hc0 hcm hpc=>by
     rcases (kid c hc0).1 hpc with e | e
     ·subst e;exact A1u _
     ·subst e;exact h4
    conv=>whnf
    refine F7 hqs rfl (by omega) hq0 ?_;conv=>whnf
    refine B0 (A8y b l' n (2 * i+1) i _ he (by omega) (by omega) (by omega)) ?_;conv=>whnf
    refine C0 (fun h5=>?_) (fun h5=>?_)<;>rw [h5]
    ·conv=>whnf
     exact ⟨⟨_,rfl⟩,l',hp,hk,hs.done (fun c hc0 hcm hpc=>A0e (hbest c hc0 hcm hpc) (show Nah l' (2 * i+1) i by have:=h5;simp only [Bool.not_eq_true'] at this;exact this)),he,hfr⟩
    ·conv=>whnf
     refine F7 hqs rfl (by omega) hq0 ?_;conv=>whnf
     refine tail (2 * i+1) (by omega) (by omega) ((kid _ (by omega)).2 (.inl rfl)) hbest _ (fun v st'' l'' hv hp' hk' he' hfr' hpr hs'=>?_) (by have:=h5;simp only [Bool.not_eq_false'] at this;exact this)
     subst hv;conv=>whnf
     refine ⟨rfl,?_⟩;conv=>whnf
     exact ⟨l.length - (2 * i+1),by omega,2 * i+1,l'',hp',hk',he',hfr',hs',by omega,rfl,rfl⟩
  ·have hbest:∀ c,0<c→c<m→T3 c=i→Nah l' c (2 * i+1):=fun c hc0 hcm hpc=>by
    rcases (kid c hc0).1 hpc with e | e
    ·subst e;exact A1u _
    ·omega
   conv=>whnf
   refine F7 hqs rfl (by omega) hq0 ?_;conv=>whnf
   refine B0 (A8y b l' n (2 * i+1) i _ he (by omega) (by omega) (by omega)) ?_;conv=>whnf
   refine C0 (fun h5=>?_) (fun h5=>?_)<;>rw [h5]
   ·conv=>whnf
    exact ⟨⟨_,rfl⟩,l',hp,hk,hs.done (fun c hc0 hcm hpc=>A0e (hbest c hc0 hcm hpc) (show Nah l' (2 * i+1) i by have:=h5;simp only [Bool.not_eq_true'] at this;exact this)),he,hfr⟩
   ·conv=>whnf
    refine F7 hqs rfl (by omega) hq0 ?_;conv=>whnf
    refine tail (2 * i+1) (by omega) (by omega) ((kid _ (by omega)).2 (.inl rfl)) hbest _ (fun v st'' l'' hv hp' hk' he' hfr' hpr hs'=>?_) (by have:=h5;simp only [Bool.not_eq_false'] at this;exact this)
    subst hv;conv=>whnf
    refine ⟨rfl,?_⟩;conv=>whnf
    exact ⟨l.length - (2 * i+1),by omega,2 * i+1,l'',hp',hk',he',hfr',hs',by omega,rfl,rfl⟩
end Go.Proofs.YtbajhapmlfbelaaGreat
