/- Part 20 of the proof: contracts of the functions that the law reaches -/
import Derived.Test.YtaapofnkmpiknaaGreatPl19
set_option maxRecDepth 100000
set_option linter.unusedVariables false
set_option linter.unusedSimpArgs false
namespace Go.Proofs.YtaapofnkmpiknaaGreat
open Go Go.Ab
attribute [local irreducible] upd del
def A9D (p:B1):Bool :=
 (((p.kind==1)||(p.kind==7)||(p.kind==3))||p.rate==0)&&((p.kind==2)||(p.kind==4)||p.amount==0)&&((p.kind==3)||(p.buy==0&&p.get==0))&&((p.kind==4)||p.parts.length==0)&&((p.kind==5)||(p.kind==6)||p.tiers.length==0)&&(((p.kind != 4)&&(p.kind != 7))||(p.scope.skus.length+p.scope.cats.length==0))&&((p.kind != 7)||!p.closes)
theorem A3P (n:Nat):((n:Int)==0)=(n==0):=by
 rw [D9J,D7B,D7B];omega
set_option maxHeartbeats 4000000 in
theorem C4n (p:B1) (hk:1≤p.kind∧p.kind≤7) (hs1:p.scope.skus.length≤20) (hs2:p.scope.cats.length≤20) (st:St):S P 248 [B6d p] st fun v st'=>v=.bool (A9D p)∧st'=st:=by
 refine SyW [1] Tryz.func248 ?_
 obtain ⟨id,kind,prio,group,code,closes,scope,least,rate,amount,buy,get,parts,tiers⟩:=p
 simp only at *
 have wl:IntKind.i64.wrap ((scope.skus.length:Int)+(scope.cats.length:Int))=((scope.skus.length+scope.cats.length:Nat):Int):=by rw [A5 (by omega) (by omega)];omega
 rcases (by omega:kind=1∨kind=2∨kind=3∨kind=4∨kind=5∨kind=6∨kind=7) with rfl | rfl | rfl | rfl | rfl | rfl | rfl
 all_goals repeat' ((conv=>whnf);first  | (refine B9 (fun h=>?_) (fun h=>?_)<;>rw [h]))
 all_goals (conv=>whnf)
 all_goals (refine ⟨?_,rfl⟩;show AV.bool _=AV.bool _;congr 1)
 all_goals (try rw [wl] at *)
 all_goals (simp only [A3P] at *;simp [A9D, *])
theorem H8 {P:Program} {f:FuncId} {args:List AV} {st:St} {v:AV} (h:S P f args st fun v' st'=>v'=v∧st'=st):A1M P f args st fun v' st'=>v'=v∧st'=st:=call h fun _ _ h=>h
structure Q7 (p:B1):Prop where
 scope:A8h p.scope
 parts:B5J p.parts
def A7t (p:B1):Bool :=
 if p.kind=1 then A8I p else if p.kind=2 then A8G p else if p.kind=3 then A8H p else if p.kind=4 then A6Y p else if p.kind=5 then A0d p.tiers else if p.kind=6 then A0d p.tiers else A8I p
def H2 (p:B1):Bool:=decide (p.kind≥1)&&decide (p.kind<8)&&A7s p&&A9D p&&A7t p
theorem B2t {s:W4} (h:A0q s=true):s.skus.length≤20∧s.cats.length≤20:=by
 simp only [A0q,D6I,D6F] at h
 exact ⟨h.1.1,h.2.1⟩
theorem B3R {p:B1} (h:A7s p=true):p.scope.skus.length≤20∧p.scope.cats.length≤20:=by
 simp only [A7s,D6I] at h
 exact B2t h.1.2
theorem B0N (p:B1) (hp:Q7 p) (st:St):S P 196 [B7 p] st fun v st'=>v=.bool (H2 p)∧st'=st:=by
 refine F4 [1,3,4] Tryz.func196 ?_
 refine ⟨[],[],[0,1,2,3,4,5,6,7,8,9,10,11,12,13,14,15,16,17,18,19,20,21,22,23,24],by kernel_rfl,?_⟩;conv=>whnf
 refine B9 (fun h1=>?_) (fun h1=>?_)<;>rw [h1]
 case refine_2 =>
  conv=>whnf
  refine ⟨?_,rfl⟩
  simp only [H2,h1,D7c];rfl
 conv=>whnf
 refine B9 (fun h2=>?_) (fun h2=>?_)<;>rw [h2]
 case refine_2 =>
  conv=>whnf
  refine ⟨?_,rfl⟩
  simp only [H2,h1,h2,D7c,D7h];rfl
 have hk:1≤p.kind∧p.kind≤7:=by simp only [D6F] at h1 h2;omega
 conv=>whnf
 refine cqW (C6S p hp.scope st) ?_
 refine B9 (fun h3=>?_) (fun h3=>?_)
 case refine_2 =>
  rw [h3];conv=>whnf
  refine ⟨?_,rfl⟩
  simp only [H2,h3,D7c,D7h];rfl
 rw [h3]
 have hl:=B3R h3
 conv=>whnf
 refine cqW (C4n p hk hl.1 hl.2 st) ?_
 refine B9 (fun h4=>?_) (fun h4=>?_)
 case refine_2 =>
  rw [h4];conv=>whnf
  refine ⟨?_,rfl⟩
  simp only [H2,h4,D7c,D7h];rfl
 rw [h4]
 have hspec:H2 p=A7t p:=by simp only [H2,h1,h2,h3,h4,D6Y]
 rw [hspec]
 suffices hcall:∀ f,f=(if p.kind=1 then 242 else if p.kind=2 then 243 else if p.kind=3 then 244 else if p.kind=4 then 245 else if p.kind=5 then 246 else if p.kind=6 then 246 else 242)→S P f [B6d p] st fun v st'=>v=.bool (A7t p)∧st'=st by
  clear hspec h1 h2 h3 h4 hl
  generalize A7t p=B at *
  clear hp
  obtain ⟨id,kind,prio,group,code,closes,scope,least,rate,amount,buy,get,parts,tiers⟩:=p
  simp only at hk hcall
  rcases (by omega:kind=1∨kind=2∨kind=3∨kind=4∨kind=5∨kind=6∨kind=7) with rfl | rfl | rfl | rfl | rfl | rfl | rfl
  all_goals (conv=>whnf)
  all_goals (refine ⟨⟨by dsimp only;omega,by dsimp only;omega⟩,?_⟩;conv=>whnf)
  all_goals (refine ⟨_,H8 (hcall _ rfl),?_⟩;conv=>whnf)
  all_goals exact ⟨rfl,rfl⟩
 rintro f rfl
 unfold A7t
 rcases (by omega:p.kind=1∨p.kind=2∨p.kind=3∨p.kind=4∨p.kind=5∨p.kind=6∨p.kind=7) with e | e | e | e | e | e | e<;>rw [e]
 ·exact B4R p st
 ·exact C1z p st
 ·exact C1B p st
 ·exact C1A p hp.parts st
 ·exact C0z p st
 ·exact C0z p st
 ·exact B4R p st
theorem C1t (s:C8) (st:St):S P 172 [eS s] st fun v st'=>v=.bool (!D1 s)∧st'=st:=by
 refine F4 [] Tryz.func172 ?_
 refine I2 (A4a s st) ?_
 exact ⟨rfl,rfl⟩
def S6 (l:List C8):Bool:=decide ((l.length:Int)≤4)&&A0p l&&!(l.any fun s=>!D1 s)
theorem B9L (l:List C8) (hl:l.length≤Big) (st:St):S P 120 [C7 l] st fun v st'=>v=.bool (S6 l)∧st'=st:=by
 refine SyW [] Tryz.func120 ?_
 repeat' ((conv=>whnf);first | refine B3 (B2o l hl st) ?_ | refine B3 (C2r l hl _ [] (fun s=>!D1 s) st fun x _=>C1t x st) ?_ | (refine B9 (fun h=>?_) (fun h=>?_)<;>rw [h]))
 all_goals (conv=>whnf)
 all_goals (refine ⟨?_,rfl⟩;show AV.bool _=AV.bool _;congr 1)
 all_goals (simp only [S6, *,D6Y,D7c,D7u,D7h];try rfl)
theorem C4T (p x:B1) (st:St):S P 198 [B7 x,.fptr (B7 p) 0] st fun v st'=>v=.bool (x.id.toList==p.id.toList)∧st'=st:=by
 refine F4 [2] Tryz.func198 ?_
 exact ⟨rfl,rfl⟩
theorem B2v {α : Type} [Inhabited α] (e:Nat) (enc : α→AV) (l:List α) (i n:Nat) (f:Nat→AV) (hi:i≤l.length) (hn:n=i) (hf:∀ k,k<i→f k=enc (l.getD k default)) (st:St):A6 [.arr e n f] st [A8 e enc (l.take i)] st:=by
 subst hn
 have el:(l.take n).length=n:=by rw [D6N];omega
 have e2:A8 e enc (l.take n)=.arr e n (fun k=>enc ((l.take n).getD k default)):=by unfold A8;rw [el]
 rw [e2]
 refine A6.arr fun k hk=>?_
 rw [hf k hk]
 congr 1
 simp [D6D,D6S hk]
def X0 (l:List B1) (k:Nat) (p:B1):Bool:=H2 p&&!((l.take k).any fun x=>x.id.toList==p.id.toList)
def promosC (l:List B1):Bool:=decide ((l.length:Int)≤60)&&L3 l (X0 l)
theorem C4x (l:List B1) (hl:l.length≤Big) (hf:∀ p∈l,Q7 p) (st:St):S P 145 [A8 15 B7 l] st fun v st'=>v=.bool (promosC l)∧st'=st:=by
 refine F4 [4] Tryz.func145 ?_
 refine B9 (fun h=>?_) (fun h=>?_)<;>rw [h]<;>simp only [D6F,D6E] at h
 ·conv=>whnf
  refine ⟨?_,rfl⟩
  rw [show promosC l=false by unfold promosC;rw [D6L (by omega),D7c]];rfl
 have ht:promosC l=L3 l (X0 l):=by unfold promosC;rw [D7m (by omega),D6Y]
 conv=>whnf
 refine ⟨[0,8,9,10],fun m vs st'=>∃ i:Nat,i≤l.length∧(∀ k,k<i→X0 l k (l.getD k default)=true)∧m=l.length - i∧vs=[A8 15 B7 l,A8 15 B7 l,eI l.length,eI i]∧st'=st,?_,?_⟩
 ·conv=>whnf
  exact ⟨_,0,D7e _,fun k hk=>absurd hk (by omega),rfl,rfl,rfl⟩
 ·rintro m vs st' ⟨i,hi,hok,rfl,rfl,rfl⟩
  conv=>whnf
  cases h:decide ((i:Int)<(l.length:Int))
  ·have:=D6G h
   conv=>whnf
   refine ⟨?_,rfl⟩
   rw [ht,K8 fun k hk=>hok k (by omega)];rfl
  ·have hi':i<l.length:=by have:=D6H h;omega
   conv=>whnf
   refine ⟨rfl,⟨by omega,by omega⟩,?_⟩
   have yes:X0 l i (l.getD (i:Int).toNat default)=true→∀ k,k<i+1→X0 l k (l.getD k default)=true:=fun h=>H5 hok h
   have no:X0 l i (l.getD (i:Int).toNat default)=false→promosC l=false:=fun h=>by rw [ht];exact X2 hi' h
   have hmem:l.getD (i:Int).toNat default∈l:=by
    rw [D6R,D6D,D6K hi'];exact D8c hi'
   unfold X0 at yes no;conv=>whnf
   refine I2 (B0N (l.getD (i:Int).toNat default) (hf _ hmem) _) ?_
   refine B9 (fun h1=>?_) (fun h1=>?_)
   ·rw [h1];conv=>whnf
    refine ⟨?_,rfl⟩
    rw [no (by rw [show H2 (l.getD (i:Int).toNat default)=false by simpa using h1,D7c])];rfl
   ·rw [h1]
    have h1':H2 (l.getD (i:Int).toNat default)=true:=by simpa using h1
    conv=>whnf
    refine ⟨rfl,⟨by omega,by omega,by omega⟩,?_⟩;conv=>whnf
    refine E5 (A6.cons (B2v 15 B7 l i _ _ hi (by omega) (fun k hk=>by simp) _) (A6.keep _ _)) (B3 (B6O (l.take i) (by rw [D6N];omega) _ [.fptr (B7 (l.getD (i:Int).toNat default)) 0] (fun x=>x.id.toList==(l.getD (i:Int).toNat default).id.toList) _ fun x _=>C4T _ x _) ?_);conv=>whnf
    refine B9 (fun h2=>?_) (fun h2=>?_)
    ·rw [h2];conv=>whnf
     refine ⟨?_,rfl⟩
     rw [no (by rw [h2,D7s,D7h])];rfl
    ·rw [h2];conv=>whnf
     refine G2 ?_
     exact ⟨l.length - (i+1),by omega,i+1,by omega,yes (by rw [h1',h2];rfl),rfl,by rw [B4 (by omega)],rfl⟩
def A4v (x:Ab.Item):Bool:=!(!D1 x.sku||!D1 x.cat||decide (x.price<0)||decide (x.price>1000000000))
def A1C (l:List Ab.Item):Bool:=!decide ((l.length:Int)>500)&&(L3 l (fun _ x=>A4v x)&&A0p (l.map Ab.Item.sku))
theorem C6z (l:List Ab.Item) (st:St):S P 144 [A8 4 E9 l] st fun v st'=>v=.bool (A1C l)∧st'=st:=by
 refine A0Q ?_
 refine F4 [5] Tryz.func144 ?_
 refine B9 (fun h=>?_) (fun h=>?_)<;>rw [h]
 ·conv=>whnf
  refine ⟨?_,F1.refl _⟩
  rw [show A1C l=false by unfold A1C;rw [h];rfl];rfl
 have hs:l.length≤500:=by simp only [D6E] at h;omega
 have ht:A1C l=(L3 l (fun _ x=>A4v x)&&A0p (l.map Ab.Item.sku)):=by unfold A1C;rw [h,D7j,D6Y]
 conv=>whnf
 refine ⟨[3,9,10,11],fun m vs st'=>∃ (i:Nat) (sv:AV),i≤l.length∧(∀ k,k<i→(fun (_:Nat) (x:Ab.Item)=>A4v x) k (l.getD k default)=true)∧m=l.length - i∧vs=[sv,A8 4 E9 l,eI l.length,eI i]∧Col 9 1 (fun k=>eS (Ab.Item.sku (l.getD k default))) st i sv st',?_,?_⟩
 ·conv=>whnf
  exact ⟨_,0,.emp,D7e _,fun k hk=>absurd hk (by omega),rfl,rfl,Col.start _ _ _ _⟩
 ·rintro m vs st' ⟨i,sv,hi,hok,rfl,rfl,hc⟩
  conv=>whnf
  cases h:decide ((i:Int)<(l.length:Int))
  ·have:=D6G h
   obtain rfl:i=l.length:=by omega
   conv=>whnf
   refine E5 (hc.shift.trans (B4L Ab.Item.sku l st)) (B3 (B2o (l.map Ab.Item.sku) (by rw [D6J];omega) st) ?_);conv=>whnf
   refine ⟨?_,F1.refl _⟩
   rw [ht,K8 fun k hk=>hok k (by omega),D6Y];rfl
  ·have hi':i<l.length:=by have:=D6H h;omega
   conv=>whnf
   refine ⟨rfl,⟨by omega,by omega⟩,?_⟩
   have yes:(fun (_:Nat) (x:Ab.Item)=>A4v x) i (l.getD (i:Int).toNat default)=true→∀ k,k<i+1→(fun (_:Nat) (x:Ab.Item)=>A4v x) k (l.getD k default)=true:=fun h=>H5 hok h
   have no:(fun (_:Nat) (x:Ab.Item)=>A4v x) i (l.getD (i:Int).toNat default)=false→A1C l=false:=fun h=>by rw [ht,X2 hi' h,D7c]
   have hmem:l.getD (i:Int).toNat default∈l:=by
    rw [D6R,D6D,D6K hi'];exact D8c hi'
   have hsup:=hc.sup
   simp only [A4v] at yes no
   repeat' ((conv=>whnf);first | refine B3 (A4a _ _) ?_ | (refine B9 (fun h=>?_) (fun h=>?_)<;>rw [h]))
   all_goals (conv=>whnf)
   all_goals first
    | (refine ⟨?_,hsup⟩;rw [no (by first | (simp only [*,D6Y,Bool.and_self,D7v,D7z,D7s];done) | simpa using h)];rfl)
    | skip
   refine Col.app rfl rfl rfl rfl rfl ?_ (by show (i+1) * 16≤140737488355328;omega) hc (fun sv' st'' hc'=>?_)
   ·rfl
   conv=>whnf
   refine G2 ?_
   exact ⟨l.length - (i+1),by omega,i+1,sv',by omega,yes (by first | (simp only [*,D7c,D7h,D7w,D7j];done) | simpa using h),rfl,by rw [B4 (by omega)],hc'⟩
def A4D (x:G8):Bool:=!(!D1 x.cat||!N9 0 10000 x.rate)
def Y6 (z:K3):Bool:=!(!D1 z.name||!N9 0 10000 z.rest||!N9 0 10000 z.ship||decide ((z.rates.length:Int)>40))&&(L3 z.rates (fun _ x=>A4D x)&&A0p (z.rates.map G8.cat))
theorem C9E (z:K3) (st:St):S P 199 [S3 z] st fun v st'=>v=.bool (Y6 z)∧st'=st:=by
 refine A0Q ?_
 refine SyW [1,5] Tryz.func199 ?_
 repeat' ((conv=>whnf);first | refine B3 (A4a _ _) ?_ | refine B3 (B5j _ _) ?_ | (refine B9 (fun h=>?_) (fun h=>?_)<;>rw [h]))
 all_goals (conv=>whnf)
 all_goals first
  | (refine ⟨?_,F1.refl _⟩
     rw [show Y6 z=false by unfold Y6;simp only [*,D7z,D7v,D7s,D7c]]
     rfl)
  | skip
 have hs:z.rates.length≤40:=by simp only [D6E] at h;omega
 have ht:Y6 z=(L3 z.rates (fun _ x=>A4D x)&&A0p (z.rates.map G8.cat)):=by unfold Y6;simp only [*,D7w,D7j,D6Y]
 refine ⟨[3,29,30,31],fun m vs st'=>∃ (i:Nat) (sv:AV),i≤z.rates.length∧(∀ k,k<i→(fun (_:Nat) (x:G8)=>A4D x) k (z.rates.getD k default)=true)∧m=z.rates.length - i∧vs=[sv,A8 2 A0U z.rates,eI z.rates.length,eI i]∧Col 9 1 (fun k=>eS (G8.cat (z.rates.getD k default))) st i sv st',?_,?_⟩
 ·conv=>whnf
  exact ⟨_,0,.emp,D7e _,fun k hk=>absurd hk (by omega),rfl,rfl,Col.start _ _ _ _⟩
 ·rintro m vs st' ⟨i,sv,hi,hok,rfl,rfl,hc⟩
  conv=>whnf
  cases h:decide ((i:Int)<(z.rates.length:Int))
  ·have:=D6G h
   obtain rfl:i=z.rates.length:=by omega
   conv=>whnf
   refine E5 (hc.shift.trans (B4L G8.cat z.rates st)) (B3 (B2o (z.rates.map G8.cat) (by rw [D6J];omega) st) ?_);conv=>whnf
   refine ⟨?_,F1.refl _⟩
   rw [ht,K8 fun k hk=>hok k (by omega),D6Y];rfl
  ·have hi':i<z.rates.length:=by have:=D6H h;omega
   conv=>whnf
   refine ⟨rfl,⟨by omega,by omega⟩,?_⟩
   have yes:(fun (_:Nat) (x:G8)=>A4D x) i (z.rates.getD (i:Int).toNat default)=true→∀ k,k<i+1→(fun (_:Nat) (x:G8)=>A4D x) k (z.rates.getD k default)=true:=fun h=>H5 hok h
   have no:(fun (_:Nat) (x:G8)=>A4D x) i (z.rates.getD (i:Int).toNat default)=false→Y6 z=false:=fun h=>by rw [ht,X2 hi' h,D7c]
   have hmem:z.rates.getD (i:Int).toNat default∈z.rates:=by
    rw [D6R,D6D,D6K hi'];exact D8c hi'
   have hsup:=hc.sup
   simp only [A4D] at yes no
   repeat' ((conv=>whnf);first | refine B3 (A4a _ _) ?_ | refine B3 (B5j _ _) ?_ | (refine B9 (fun h=>?_) (fun h=>?_)<;>rw [h]))
   all_goals (conv=>whnf)
   all_goals first
    | (refine ⟨?_,hsup⟩;rw [no (by first | (simp only [*,D6Y,Bool.and_self,D7v,D7z,D7s];done) | simpa using h)];rfl)
    | skip
   refine Col.app rfl rfl rfl rfl rfl ?_ (by show (i+1) * 16≤140737488355328;omega) hc (fun sv' st'' hc'=>?_)
   ·rfl
   conv=>whnf
   refine G2 ?_
   exact ⟨z.rates.length - (i+1),by omega,i+1,sv',by omega,yes (by first | (simp only [*,D7c,D7h,D7w,D7j];done) | simpa using h),rfl,by rw [B4 (by omega)],hc'⟩
def taxC (x:Tax):Bool:=!(decide (x.round<0)||decide (x.round>2)||decide ((x.zones.length:Int)>20))&&(L3 x.zones (fun _ z=>Y6 z)&&A0p (x.zones.map K3.name))
theorem C8i (x:Tax) (st:St):S P 146 [S7 x] st fun v st'=>v=.bool (taxC x)∧st'=st:=by
 refine A0Q ?_
 refine SyW [1,5] Tryz.func146 ?_
 repeat' ((conv=>whnf);first  | (refine B9 (fun h=>?_) (fun h=>?_)<;>rw [h]))
 all_goals (conv=>whnf)
 all_goals first
  | (refine ⟨?_,F1.refl _⟩
     rw [show taxC x=false by unfold taxC;simp only [*,D7z,D7v,D7s,D7c]]
     rfl)
  | skip
 have hs:x.zones.length≤20:=by simp only [D6E] at h;omega
 have ht:taxC x=(L3 x.zones (fun _ z=>Y6 z)&&A0p (x.zones.map K3.name)):=by unfold taxC;simp only [*,D7w,D7j,D6Y]
 refine ⟨[3,21,22,23],fun m vs st'=>∃ (i:Nat) (sv:AV),i≤x.zones.length∧(∀ k,k<i→(fun (_:Nat) (z:K3)=>Y6 z) k (x.zones.getD k default)=true)∧m=x.zones.length - i∧vs=[sv,A8 4 S3 x.zones,eI x.zones.length,eI i]∧Col 9 1 (fun k=>eS (K3.name (x.zones.getD k default))) st i sv st',?_,?_⟩
 ·conv=>whnf
  exact ⟨_,0,.emp,D7e _,fun k hk=>absurd hk (by omega),rfl,rfl,Col.start _ _ _ _⟩
 ·rintro m vs st' ⟨i,sv,hi,hok,rfl,rfl,hc⟩
  conv=>whnf
  cases h:decide ((i:Int)<(x.zones.length:Int))
  ·have:=D6G h
   obtain rfl:i=x.zones.length:=by omega
   conv=>whnf
   refine E5 (hc.shift.trans (B4L K3.name x.zones st)) (B3 (B2o (x.zones.map K3.name) (by rw [D6J];omega) st) ?_);conv=>whnf
   refine ⟨?_,F1.refl _⟩
   rw [ht,K8 fun k hk=>hok k (by omega),D6Y];rfl
  ·have hi':i<x.zones.length:=by have:=D6H h;omega
   conv=>whnf
   refine ⟨rfl,⟨by omega,by omega⟩,?_⟩
   have yes:(fun (_:Nat) (z:K3)=>Y6 z) i (x.zones.getD (i:Int).toNat default)=true→∀ k,k<i+1→(fun (_:Nat) (z:K3)=>Y6 z) k (x.zones.getD k default)=true:=fun h=>H5 hok h
   have no:(fun (_:Nat) (z:K3)=>Y6 z) i (x.zones.getD (i:Int).toNat default)=false→taxC x=false:=fun h=>by rw [ht,X2 hi' h,D7c]
   have hmem:x.zones.getD (i:Int).toNat default∈x.zones:=by
    rw [D6R,D6D,D6K hi'];exact D8c hi'
   have hsup:=hc.sup
   simp only [not_true] at yes no
   conv=>whnf
   refine I2 (C9E (x.zones.getD (i:Int).toNat default) _) ?_
   refine B9 (fun h=>?_) (fun h=>?_)<;>rw [h]
   all_goals (conv=>whnf)
   all_goals first
    | (refine ⟨?_,hsup⟩;rw [no (by first | (simp only [*,D6Y,Bool.and_self,D7v,D7z,D7s];done) | simpa using h)];rfl)
    | skip
   refine Col.app rfl rfl rfl rfl rfl ?_ (by show (i+1) * 16≤140737488355328;omega) hc (fun sv' st'' hc'=>?_)
   ·rfl
   conv=>whnf
   refine G2 ?_
   exact ⟨x.zones.length - (i+1),by omega,i+1,sv',by omega,yes (by first | (simp only [*,D7c,D7h,D7w,D7j];done) | simpa using h),rfl,by rw [B4 (by omega)],hc'⟩
def A2H (l:List Int) (i:Nat) (k:Int):Bool:=!(!N9 1 9 k||(l.take i).any fun y=>k==y)
def A1h (l:List Int):Bool:=L3 l (A2H l)
theorem B9Z (l:List Int) (hl:l.length<9223372036854775807) (st:St):S P 201 [B0 l] st fun v st'=>v=.bool (A1h l)∧st'=st:=by
 refine F4 [] Tryz.func201 ?_
 refine ⟨[0,5,6,7],fun m vs st'=>∃ i:Nat,i≤l.length∧(∀ k,k<i→A2H l k (l.getD k default)=true)∧m=l.length - i∧vs=[B0 l,B0 l,eI l.length,eI i]∧st'=st,?_,?_⟩
 ·conv=>whnf
  exact ⟨_,0,D7e _,fun k hk=>absurd hk (by omega),rfl,rfl,rfl⟩
 ·rintro m vs st' ⟨i,hi,hok,rfl,rfl,rfl⟩
  conv=>whnf
  cases h:decide ((i:Int)<(l.length:Int))
  ·have:=D6G h
   conv=>whnf
   refine ⟨?_,rfl⟩
   rw [show A1h l=true from K8 fun k hk=>hok k (by omega)];rfl
  ·have hi':i<l.length:=by have:=D6H h;omega
   conv=>whnf
   refine ⟨rfl,⟨by omega,by omega⟩,?_⟩
   have yes:A2H l i (l.getD (i:Int).toNat default)=true→∀ k,k<i+1→A2H l k (l.getD k default)=true:=fun h=>H5 hok h
   have no:A2H l i (l.getD (i:Int).toNat default)=false→A1h l=false:=fun h=>X2 hi' h
   unfold A2H at yes no;conv=>whnf
   refine I2 (C3Q _ _) ?_
   refine B9 (fun h1=>?_) (fun h1=>?_)
   ·rw [h1];conv=>whnf
    refine ⟨?_,rfl⟩
    rw [no (by rw [h1];rfl)];rfl
   ·rw [h1];conv=>whnf
    refine ⟨rfl,⟨by omega,by omega,by omega⟩,?_⟩;conv=>whnf
    refine E5 (A6.cons (B2v 1 eI l i _ _ hi (by omega) (fun k hk=>by simp) _) (A6.keep _ _)) (B3 (C3N (l.take i) (by rw [D6N];omega) _ _) ?_);conv=>whnf
    refine B9 (fun h2=>?_) (fun h2=>?_)
    ·rw [h2];conv=>whnf
     refine ⟨?_,rfl⟩
     rw [no (by rw [h2,D7v,D7s])];rfl
    ·rw [h2];conv=>whnf
     refine G2 ?_
     exact ⟨l.length - (i+1),by omega,i+1,by omega,yes (by rw [h1,h2];rfl),rfl,by rw [B4 (by omega)],rfl⟩
def A2l (p:A5T):Bool:=N9 0 100000 p.window&&N9 0 100000 p.grace&&decide (p.mode≥1)&&decide (p.mode≤3)&&N9 0 10000 p.restock&&A1h p.order&&A1h p.credit
structure X1 (r:D6):Prop where
 promos:r.promos.length≤Big
 fit:∀ p∈r.promos,Q7 p
 order:r.policy.order.length<9223372036854775807
 credit:r.policy.credit.length<9223372036854775807
theorem C4v (p:A5T) (h1:p.order.length<9223372036854775807) (h2:p.credit.length<9223372036854775807) (st:St):S P 148 [C6h p] st fun v st'=>v=.bool (A2l p)∧st'=st:=by
 refine SyW [1] Tryz.func148 ?_
 repeat' ((conv=>whnf);first | refine B3 (C3u _ st) ?_ | refine B3 (B5j _ st) ?_ | refine B3 (B9Z p.order h1 st) ?_ | refine B3 (B9Z p.credit h2 st) ?_ | (refine B9 (fun h=>?_) (fun h=>?_)<;>rw [h]))
 all_goals (conv=>whnf)
 all_goals (refine ⟨?_,rfl⟩;show AV.bool _=AV.bool _;congr 1)
 all_goals (simp only [A2l, *,D6Y,D7c,D7u,D7h,D7v,D7w,D7z,D7r,D7s,D7j,D7Y];try rfl)
def K6 (r:D6):Bool:=A1C r.items&&promosC r.promos&&taxC r.tax&&B0i r.ship&&A2l r.policy
theorem B5k (r:D6) (hf:X1 r) (st:St):S P 86 [F7 r] st fun v st'=>v=.bool (K6 r)∧st'=st:=by
 refine SyW [1] Tryz.func86 ?_
 repeat' ((conv=>whnf);first | refine B3 (C6z r.items st) ?_ | refine B3 (C4x r.promos hf.promos hf.fit st) ?_ | refine B3 (C8i r.tax st) ?_ | refine B3 (C9k r.ship st) ?_ | refine B3 (C4v r.policy hf.order hf.credit st) ?_ | (refine B9 (fun h=>?_) (fun h=>?_)<;>rw [h]))
 all_goals (conv=>whnf)
 all_goals (refine ⟨?_,rfl⟩;show AV.bool _=AV.bool _;congr 1)
 all_goals (simp only [K6, *,D6Y,D7c,D7u,D7h,D7v,D7w,D7z,D7r,D7s,D7j,D7Y];try rfl)
end Go.Proofs.YtaapofnkmpiknaaGreat
namespace Go.Proofs.YtaapofnkmpiknaaGreat
open Go Go.Ab
theorem A3h:∀ x:List UInt8,Op.bytesLess x x=false
 | []=>rfl
 | a::x=>by simp [Op.bytesLess,A3h x,UInt8.lt_irrefl]
theorem B5R:∀ x y z:List UInt8,Op.bytesLess x y=true→Op.bytesLess y z=true→Op.bytesLess x z=true
 | _,_,[],_,h=>by simp [Op.bytesLess] at h
 | _,[],_::_,h,_=>by simp [Op.bytesLess] at h
 | [],_::_,_::_,_,_=>by simp [Op.bytesLess]
 | a::x,b::y,c::z,h1,h2=>by
  simp only [Op.bytesLess,D7J,D6I,D6F,D7B] at *
  rcases h1 with h1 | ⟨rfl,h1⟩
  ·rcases h2 with h2 | ⟨rfl,h2⟩
   ·exact .inl (UInt8.lt_trans h1 h2)
   ·exact .inl h1
  ·rcases h2 with h2 | ⟨rfl,h2⟩
   ·exact .inl h2
   ·exact .inr ⟨rfl,B5R x y z h1 h2⟩
theorem C3l:∀ x y:List UInt8,Op.bytesLess x y=false→Op.bytesLess y x=false→x=y
 | [],[],_,_=>rfl
 | [],_::_,h,_=>by simp [Op.bytesLess] at h
 | _::_,[],_,h=>by simp [Op.bytesLess] at h
 | a::x,b::y,h1,h2=>by
  simp only [Op.bytesLess,D7Q,D8M,D6E,D7p] at *
  have hab:a=b:=by
   have n1:=UInt8.not_lt.1 h1.1
   have n2:=UInt8.not_lt.1 h2.1
   exact UInt8.le_antisymm n2 n1
  subst hab
  rw [C3l x y (h1.2.resolve_left (by simp)) (h2.2.resolve_left (by simp))]
theorem A5r (a:C8):slt a a=false:=A3h _
theorem B4c {a b c:C8} (h1:slt a b=true) (h2:slt b c=true):slt a c=true:=B5R _ _ _ h1 h2
theorem A7f {a b:C8} (h1:slt a b=false) (h2:slt b a=false):a.toList=b.toList:=C3l _ _ h1 h2
theorem A7e {a b:C8} (h:slt a b=true):slt b a=false:=by
 cases hb:slt b a with
 | false=>rfl
 | true=>have:=B4c h hb;rw [A5r] at this;cases this
theorem A4I {a b c:C8} (h1:slt b a=false) (h2:slt c b=false):slt c a=false:=by
 cases hca:slt c a with
 | false=>rfl
 | true =>
  cases hab:slt a b with
  | true=>have:=B4c hca hab;rw [this] at h2;cases h2
  | false =>
   have e:=A7f hab h1
   have:slt c b=true:=by unfold slt at *;rw [←e];exact hca
   rw [this] at h2;cases h2
theorem B4b {a a' b b':C8} (h1:a.toList=a'.toList) (h2:b.toList=b'.toList):slt a b=slt a' b':=by unfold slt;rw [h1,h2]
def A4J (l:List C8) (k:Nat):Bool:=k==0||!slt (l.getD k default) (l.getD (k - 1) default)
theorem B7n {l:List C8} (h:∀ k,k<l.length→A4J l k=true) {a b:Nat} (hab:a≤b) (hb:b<l.length):slt (l.getD b default) (l.getD a default)=false:=by
 induction b with
 | zero=>have:a=0:=by omega
         subst this;exact A5r _
 | succ b ih =>
  rcases D8k a (b+1) with hlt | hge
  ·have h1:=ih (by omega) (by omega)
   have h2:=h (b+1) hb
   simp only [A4J,Nat.add_one_ne_zero,D7B,D7J,D6X,Nat.add_sub_cancel,false_or] at h2
   exact A4I h1 h2
  ·have:a=b+1:=by omega
   subst this;exact A5r _
end Go.Proofs.YtaapofnkmpiknaaGreat
namespace Go.Proofs.YtaapofnkmpiknaaGreat
open Go Go.Ab
attribute [local irreducible] upd del
theorem C8c (a:C8) (st:St):S P 259 [eS a] st fun v st'=>v=.bool false∧st'=st:=by
 refine F4 [] Tryz.func259 ?_
 refine ⟨?_,rfl⟩
 show AV.bool (!(a.toList==a.toList))=_
 simp
def A9l (a b:C8):Int:=if slt a b=true then -1 else if slt b a=true then 1 else 0
theorem B9U (a b:C8):(!(Op.bytesLess a.toList b.toList||a.toList==b.toList))=slt b a:=by
 cases h1:Op.bytesLess a.toList b.toList with
 | true=>rw [A7e (a:=a) (b:=b) h1];rfl
 | false =>
  cases h2:slt b a with
  | true =>
   have hne:(a.toList==b.toList)=false:=by
    rw [D7p];intro e
    unfold slt at h2;rw [e,A3h] at h2;cases h2
   rw [hne];rfl
  | false=>rw [A7f (a:=a) (b:=b) h1 h2];simp
theorem C7P (a b:C8) (st:St):S P 222 [eS a,eS b] st fun v st'=>v=eI (A9l a b)∧st'=st:=by
 refine F4 [] Tryz.func222 ?_
 refine I2 (C8c _ _) ?_
 refine I2 (C8c _ _) ?_
 refine B9 (fun h=>?_) (fun h=>?_)<;>rw [h]
 ·conv=>whnf
  exact ⟨by rw [show A9l a b = -1 from if_pos h];rfl,rfl⟩
 ·have h0:¬ slt a b=true:=by rw [show slt a b=false from h];simp
  conv=>whnf
  refine B9 (fun h2=>?_) (fun h2=>?_)
  ·have h3:slt b a=true:=by rw [←B9U a b];exact h2
   rw [h2];conv=>whnf
   exact ⟨by rw [show A9l a b=1 by unfold A9l;rw [if_neg h0,if_pos h3]];rfl,rfl⟩
  ·have h3:¬ slt b a=true:=by rw [←B9U a b,D7K];exact h2
   rw [h2];conv=>whnf
   exact ⟨by rw [show A9l a b=0 by unfold A9l;rw [if_neg h0,if_neg h3]];rfl,rfl⟩
theorem B4x (a b:Ab.Item) (st:St):S P 174 [E9 a,E9 b] st fun v st'=>v=eI (A9l a.sku b.sku)∧st'=st:=by
 refine F4 [2,3] Tryz.func174 ?_
 refine I2 (C7P _ _ _) ?_
 exact ⟨rfl,rfl⟩
theorem B1k (a b:C8):decide (A9l a b<0)=slt a b:=by
 unfold A9l
 split
 ·rename_i h;rw [h];rfl
 ·rename_i h
  rw [D7K] at h
  rw [h];split<;>rfl
theorem C0T (a b:C8):(A9l a b==0)=(a.toList==b.toList):=by
 unfold A9l
 split
 ·rename_i h
  have:(a.toList==b.toList)=false:=by
   rw [D7p];intro e
   unfold slt at h;rw [e,A3h] at h;cases h
  rw [this];rfl
 ·split
  ·rename_i h1 h
   have:(a.toList==b.toList)=false:=by
    rw [D7p];intro e
    unfold slt at h;rw [e,A3h] at h;cases h
   rw [this];rfl
  ·rename_i h1 h2
   rw [D7K] at h1 h2
   rw [A7f h1 h2];simp
abbrev skus (l:List Ab.Item):List C8:=l.map Ab.Item.sku
theorem B5n (l:List Ab.Item) {k:Nat} (hk:k<l.length):(skus l).getD k default=(l.getD k default).sku:=D4 Ab.Item.sku l hk
def A8X (l:List C8):Bool:=(List.range l.length).all (A4J l)
theorem C5j (l:List Ab.Item) (hl:l.length≤9223372036854775807) (st:St):S P 173 [A8 4 E9 l,.fn (.func 174) [] []] st fun v st'=>v=.bool (A8X (skus l))∧st'=st:=by
 refine F4 [] Tryz.func173 ?_
 have hlen:(skus l).length=l.length:=D6J ..
 refine ⟨[0,1,5],fun m vs st'=>∃ i:Int,-1≤i∧i<l.length∧(∀ k:Nat,i<k→k<l.length→A4J (skus l) k=true)∧m=(i+1).toNat∧vs=[A8 4 E9 l,.fn (.func 174) [] [],eI i]∧st'=st,?_,?_⟩
 ·conv=>whnf
  have w:IntKind.i64.wrap ((l.length:Int) - 1)=(l.length:Int) - 1:=A5 (by omega) (by omega)
  exact ⟨_,(l.length:Int) - 1,by omega,by omega,fun k h1 h2=>by omega,rfl,by rw [w],rfl⟩
 ·rintro m vs st' ⟨i,h0,hi,hok,rfl,rfl,rfl⟩
  conv=>whnf
  cases h:decide (i>0)
  ·have:=D6G h
   conv=>whnf
   refine ⟨?_,rfl⟩
   rw [show A8X (skus l)=true from B1d fun k hk=>?_];rfl
   rw [hlen] at hk
   rcases D8b k with e | e
   ·subst e;rfl
   ·exact hok k (by omega) hk
  ·have hp:=D6H h
   have w:IntKind.i64.wrap (i - 1)=i - 1:=A5 (by omega) (by omega)
   conv=>whnf
   refine ⟨[],[],[0,1,2,3,4,5,6,7,8,9,10,11],by kernel_rfl,?_⟩;conv=>whnf
   refine E7 ?_
   rw [w]
   refine E7 ?_
   refine cqW (B4x (l.getD i.toNat default) (l.getD (i - 1).toNat default) _) ?_
   rw [B1k]
   have e:A4J (skus l) i.toNat=!slt (l.getD i.toNat default).sku (l.getD (i - 1).toNat default).sku:=by
    unfold A4J
    rw [D8t (by omega),D7r,B5n l (by omega),B5n l (by omega),show i.toNat - 1=(i - 1).toNat by omega]
   refine B9 (fun h2=>?_) (fun h2=>?_)
   ·rw [h2] at e ⊢;conv=>whnf
    refine ⟨?_,rfl⟩
    rw [show A8X (skus l)=false from A4y (k:=i.toNat) (by omega) e];rfl
   ·rw [h2] at e ⊢;conv=>whnf
    refine G2 ?_
    exact ⟨i.toNat,by omega,i - 1,by omega,by omega,fun k h1 h2=>by
     rcases (by omega:k=i.toNat∨i<k) with e' | e'
     ·rw [e'];exact e
     ·exact hok k e' h2,by omega,by rw [w],rfl⟩
theorem C6k (s:C8) (x:Ab.Item) (st:St):S P 176 [E9 x,.fptr (eS s) 0] st fun v st'=>v=.bool (x.sku.toList==s.toList)∧st'=st:=by
 refine F4 [2] Tryz.func176 ?_
 exact ⟨rfl,rfl⟩
abbrev P9 (l:List Ab.Item) (s:C8):Int:=idx (fun x=>x.sku.toList==s.toList) l
theorem C6t {i j:Int} (hi:0≤i) (hij:i<j) (hj:j≤9223372036854775807):IntKind.i64.wrap ((IntKind.u64.wrap (IntKind.i64.wrap (i+j))).fdiv (2 ^ (min (1:Int).toNat IntKind.u64.bits)))=(i+j) / 2:=by
 have w:IntKind.u64.wrap (IntKind.i64.wrap (i+j))=i+j:=by
  rw [IntKind.wrap_i64]
  show (_:Int) % 18446744073709551616=_
  omega
 rw [w]
 rw [show (min (1:Int).toNat IntKind.u64.bits)=1 from rfl,D7x _ (by decide)]
 rw [show ((2:Int) ^ 1)=2 from rfl,A5 (x:=(i+j) / 2) (by omega) (by omega)]
theorem C4U (l:List Ab.Item) (x:Ab.Item) (hl:l.length≤9223372036854775807) (hs:A8X (skus l)=true) (st:St) :
  S P 177 [A8 4 E9 l,E9 x,.fn (.func 174) [] []] st fun v st'=>(∃ (i:Nat) (b:Bool),v=.tuple [eI i,.bool b]∧(if b=true then P9 l x.sku=i else P9 l x.sku = -1))∧st'=st:=by
 refine F4 [4] Tryz.func177 ?_
 have hlen:(skus l).length=l.length:=D6J ..
 have hmono:∀ a b:Nat,a≤b→b<l.length→slt (l.getD b default).sku (l.getD a default).sku=false:=fun a b hab hb=>by
  have:=B7n (l:=skus l) (fun k hk=>D6W.1 hs k (D6T.2 hk)) hab (by omega)
  rwa [B5n l hb,B5n l (by omega)] at this
 refine ⟨[0,2,4,8,9,10],fun m vs st'=>∃ i j:Nat,i≤j∧j≤l.length∧(∀ k,k<i→slt (l.getD k default).sku x.sku=true)∧(∀ k,j≤k→k<l.length→slt (l.getD k default).sku x.sku=false)∧m=j - i ∧
  vs=[A8 4 E9 l,.fn (.func 174) [] [],.fptr (E9 x) 0,eI l.length,eI i,eI j]∧st'=st,?_,?_⟩
 ·conv=>whnf
  exact ⟨_,0,l.length,D7e _,D6M _,fun k hk=>absurd hk (by omega),fun k h1 h2=>absurd h1 (by omega),rfl,rfl,rfl⟩
 ·rintro m vs st' ⟨i,j,hij,hj,hlo,hhi,rfl,rfl,rfl⟩
  conv=>whnf
  cases h:decide ((i:Int)<(j:Int))
  ·have:=D6G h
   obtain rfl:i=j:=by omega
   conv=>whnf
   refine ⟨[],[],[0,1,2,3,4,5,6,7,8,9,10,11,12,13,14,15],by kernel_rfl,?_⟩;conv=>whnf
   have hne:∀ k,k<i→((l.getD k default).sku.toList==x.sku.toList)=false:=fun k hk=>by
    rw [D7p];intro e
    have:=hlo k hk
    unfold slt at this;rw [e,A3h] at this;cases this
   refine B9 (fun h1=>?_) (fun h1=>?_)<;>rw [h1]<;>simp only [D6F,D6E] at h1
   ·conv=>whnf
    refine E7 ?_
    refine cqW (B4x (l.getD (i:Int).toNat default) x _) ?_
    rw [C0T]
    refine ⟨⟨i,(l.getD (i:Int).toNat default).sku.toList==x.sku.toList,rfl,?_⟩,rfl⟩
    split
    ·rename_i he
     exact A1B (by omega) hne he
    ·rename_i he
     rw [D7K] at he
     have hlt:slt (l.getD i default).sku x.sku=false:=hhi i (D6M _) (by omega)
     refine T8 fun k hk=>?_
     rcases D8k k i with hki | hki
     ·exact hne k hki
     ·rw [D7p];intro e
      have h3:=hmono i k hki hk
      rw [D7p] at he
      refine he (A7f hlt ?_)
      rw [←B4b (a:=(l.getD k default).sku) e rfl];exact h3
   ·conv=>whnf
    refine ⟨⟨i,false,rfl,?_⟩,rfl⟩
    rw [if_neg (by simp)]
    exact T8 fun k hk=>hne k (by omega)
  ·have hlt:=D6H h
   conv=>whnf
   rw [C6t (i:=i) (j:=j) (by omega) (by omega) (by omega)]
   have eh:((i:Int)+(j:Int)) / 2=(((i+j) / 2:Nat):Int):=by omega
   rw [eh]
   generalize hh:(i+j) / 2=mid at *
   refine ⟨[],[],[0,1,2,3,4,5,6,7],by kernel_rfl,?_⟩;conv=>whnf
   refine E7 ?_
   refine cqW (B4x (l.getD (mid:Int).toNat default) x _) ?_
   rw [B1k]
   refine B9 (fun h1=>?_) (fun h1=>?_)
   ·have h1':slt (l.getD mid default).sku x.sku=true:=h1
    rw [h1];conv=>whnf
    refine G2 ?_
    refine ⟨j - (mid+1),by omega,mid+1,j,by omega,hj,fun k hk=>?_,hhi,rfl,by rw [B4 (by omega)],rfl⟩
    cases hk2:slt (l.getD k default).sku x.sku with
    | true=>rfl
    | false =>
     have h3:=hmono k mid (by omega) (by omega)
     have:=A4I hk2 (show slt (l.getD mid default).sku (l.getD k default).sku=false from h3)
     rw [h1'] at this
     cases this
   ·have h1':slt (l.getD mid default).sku x.sku=false:=h1
    rw [h1];conv=>whnf
    refine G2 ?_
    refine ⟨mid - i,by omega,i,mid,by omega,by omega,hlo,fun k h2 h3=>?_,rfl,rfl,rfl⟩
    exact A4I (b:=(l.getD mid default).sku) (by exact h1') (hmono mid k h2 h3)
theorem B8g (l:List Ab.Item) (s:C8) (hl:l.length≤9223372036854775807) (st:St):S P 121 [A8 4 E9 l,eS s] st fun v st'=>v=eI (P9 l s)∧st'=st:=by
 refine F4 [3,5] Tryz.func121 ?_
 refine I2 (C5j l (by omega) _) ?_
 refine B9 (fun h=>?_) (fun h=>?_)
 ·rw [h];conv=>whnf
  refine I2 (B4H l (by omega) _ [.fptr (eS s) 0] (fun x=>x.sku.toList==s.toList) _ fun x _=>C6k s x _) ?_
  exact ⟨rfl,rfl⟩
 ·rw [h]
  have hs:A8X (skus l)=true:=by simpa using h
  conv=>whnf
  refine call (C4U l ⟨s,⟨#[]⟩,0,false⟩ hl hs _) (fun v st' hv=>?_)
  obtain ⟨⟨i,b,rfl,hb⟩,rfl⟩:=hv
  conv=>whnf
  cases b with
  | true =>
   conv=>whnf
   rw [if_pos rfl] at hb
   exact ⟨by rw [show P9 l s=i from hb];rfl,rfl⟩
  | false =>
   conv=>whnf
   rw [if_neg (by simp)] at hb
   exact ⟨by rw [show P9 l s = -1 from hb];rfl,rfl⟩
def L9 (l:List E8):Int:=l.foldl (fun s x=>s+x.qty) 0
def J8 (l:List E8):Int:=l.foldl (fun s x=>s+x.qty * x.price) 0
theorem A0A (x:E8):lineC x=true↔(0≤x.qty∧x.qty≤100000)∧(0≤x.price∧x.price≤1000000000):=by
 simp [lineC,N9]
theorem B1B {x:E8} (h:lineC x=true):0≤x.qty * x.price∧x.qty * x.price≤100000000000000:=by
 obtain ⟨⟨a,b⟩,c,d⟩:=(A0A x).1 h
 exact ⟨D8d a c,D9d b d c (by omega)⟩
theorem C9w (l:List E8) (hl:l.length≤1000) (hok:∀ x∈l,lineC x=true) (st:St):S P 288 [A8 3 J1 l] st fun v st'=>v=.tuple [eI (L9 l),eI (J8 l)]∧st'=st:=by
 refine F4 [7] Tryz.func288 ?_
 refine ⟨[4,5,8,9,10],fun m vs st'=>∃ i:Nat,i≤l.length∧(0≤L9 (l.take i)∧L9 (l.take i)≤i * 100000)∧(0≤J8 (l.take i)∧J8 (l.take i)≤i * 100000000000000)∧m=l.length - i∧vs=[eI (L9 (l.take i)),eI (J8 (l.take i)),A8 3 J1 l,eI l.length,eI i]∧st'=st,?_,?_⟩
 ·conv=>whnf
  exact ⟨_,0,D7e _,⟨D7l _,by simp [L9]⟩,⟨D7l _,by simp [J8]⟩,rfl,rfl,rfl⟩
 ·rintro m vs st' ⟨i,hi,hu,hg,rfl,rfl,rfl⟩
  conv=>whnf
  cases h:decide ((i:Int)<(l.length:Int))
  ·have:=D6G h
   obtain rfl:i=l.length:=by omega
   conv=>whnf
   refine ⟨?_,rfl⟩
   rw [D6O];rfl
  ·have hi':i<l.length:=by have:=D6H h;omega
   have hmem:l.getD (i:Int).toNat default∈l:=by
    rw [D6R,D6D,D6K hi'];exact D8c hi'
   have hx:=hok _ hmem
   obtain ⟨⟨q0,q1⟩,_⟩:=(A0A _).1 hx
   obtain ⟨m0,m1⟩:=B1B hx
   have eu:L9 (l.take (i+1))=L9 (l.take i)+(l.getD (i:Int).toNat default).qty:=H6 hi' _ _
   have eg:J8 (l.take (i+1))=J8 (l.take i)+(l.getD (i:Int).toNat default).qty * (l.getD (i:Int).toNat default).price:=H6 hi' _ _
   have w1:IntKind.i64.wrap (L9 (l.take i)+(l.getD (i:Int).toNat default).qty)=L9 (l.take (i+1)):=by rw [eu];exact A5 (by omega) (by omega)
   have w2:IntKind.i64.wrap ((l.getD (i:Int).toNat default).qty * (l.getD (i:Int).toNat default).price)=(l.getD (i:Int).toNat default).qty * (l.getD (i:Int).toNat default).price:=A5 (by omega) (by omega)
   have w3:IntKind.i64.wrap (J8 (l.take i)+(l.getD (i:Int).toNat default).qty * (l.getD (i:Int).toNat default).price)=J8 (l.take (i+1)):=by rw [eg];exact A5 (by omega) (by omega)
   conv=>whnf
   refine E7 ?_
   refine G2 ?_
   refine ⟨l.length - (i+1),by omega,i+1,by omega,?_,?_,rfl,?_,rfl⟩
   ·rw [eu];omega
   ·rw [eg];omega
   ·rw [B4 (by omega),←w1,←w3,w2]
def K1 (kn:C8→Bool) (x:E8):Bool:=!(kn x.sku&&lineC x)
def O6 (kn:C8→Bool) (l:List E8):Int :=
 if l.length>1000 then 6 else match l.find? (K1 kn) with
  | some x=>if kn x.sku=true then 2 else 7
  | none=>if (decide (L9 l>100000)||decide (J8 l>10000000000000))=true then 5 else 0
theorem A4t {α : Type} [Inhabited α] {p : α→Bool} {l:List α} {i:Nat} (hi:i<l.length) (h:∀ k,k<i→p (l.getD k default)=false) (hp:p (l.getD i default)=true):l.find? p=some (l.getD i default):=by
 induction l generalizing i with
 | nil=>simp at hi
 | cons a l ih =>
  cases i with
  | zero=>simp only [D9E] at hp ⊢;rw [D9t hp]
  | succ i =>
   have h0:=h 0 (by omega)
   simp only [D9E] at h0
   rw [D9u (by simp [h0])]
   simp only [List.getD_cons_succ] at hp ⊢
   exact ih (by simpa using hi) (fun k hk=>by simpa using h (k+1) (by omega)) hp
theorem A9p {α : Type} [Inhabited α] {p : α→Bool} {l:List α} (h:∀ k,k<l.length→p (l.getD k default)=false):l.find? p=none:=by
 rw [D9i]
 intro x hx
 obtain ⟨i,hi,rfl⟩:=D8D hx
 have:=h i hi
 simpa [hi] using this
theorem A7 {α : Type} [Inhabited α] {l:List α} {i:Nat} (hi:i<l.length):l.getD i default∈l:=by
 rw [D6D,D6K hi];exact D8c hi
theorem D5 {α : Type} [Inhabited α] {l:List α} {x : α} (h:x∈l):∃ i,i<l.length∧x=l.getD i default:=by
 obtain ⟨i,hi,rfl⟩:=D8D h
 exact ⟨i,hi,by simp [hi]⟩
theorem B9K (l:List E8) (kn:C8→Bool) (g:FuncId) (cs:List AV) (st:St) (hg:∀ x∈l,S P g (eS x.sku::cs) st fun v st'=>v=.bool (kn x.sku)∧st'=st) :
  S P 260 [A8 3 J1 l,.fn (.func g) [] cs] st fun v st'=>v=eI (O6 kn l)∧st'=st:=by
 refine F4 [6] Tryz.func260 ?_
 refine B9 (fun h=>?_) (fun h=>?_)<;>rw [h]<;>simp only [D6F,D6E] at h
 ·conv=>whnf
  exact ⟨by rw [show O6 kn l=6 from if_pos (by omega)];rfl,rfl⟩
 have hs:l.length≤1000:=by omega
 have hc:O6 kn l=match l.find? (K1 kn) with
  | some x=>if kn x.sku=true then 2 else 7
  | none=>if (decide (L9 l>100000)||decide (J8 l>10000000000000))=true then 5 else 0:=if_neg (by omega)
 conv=>whnf
 refine ⟨[0,1,12,13,14],fun m vs st'=>∃ i:Nat,i≤l.length∧(∀ k,k<i→K1 kn (l.getD k default)=false)∧m=l.length - i∧vs=[A8 3 J1 l,.fn (.func g) [] cs,A8 3 J1 l,eI l.length,eI i]∧st'=st,?_,?_⟩
 ·conv=>whnf
  exact ⟨_,0,D7e _,fun k hk=>absurd hk (by omega),rfl,rfl,rfl⟩
 ·rintro m vs st' ⟨i,hi,hok,rfl,rfl,rfl⟩
  conv=>whnf
  cases h:decide ((i:Int)<(l.length:Int))
  ·have:=D6G h
   rw [A9p fun k hk=>hok k (by omega)] at hc
   have hall:∀ x∈l,lineC x=true:=fun x hx=>by
    obtain ⟨k,hk,rfl⟩:=D5 hx
    have:=hok k (by omega)
    simp only [K1,D7q,D6I] at this
    exact this.2
   conv=>whnf
   refine I2 (C9w l hs hall _) ?_
   refine B9 (fun h1=>?_) (fun h1=>?_)
   ·rw [h1] at hc ⊢;conv=>whnf
    exact ⟨by rw [hc];rfl,rfl⟩
   ·rw [h1] at hc ⊢;conv=>whnf
    refine B9 (fun h2=>?_) (fun h2=>?_)
    ·rw [h2] at hc ⊢;conv=>whnf
     exact ⟨by rw [hc];rfl,rfl⟩
    ·rw [h2] at hc ⊢;conv=>whnf
     exact ⟨by rw [hc];rfl,rfl⟩
  ·have hi':i<l.length:=by have:=D6H h;omega
   have hmem:l.getD (i:Int).toNat default∈l:=A7 hi'
   conv=>whnf
   refine E7 ?_
   refine I2 (hg _ hmem) ?_
   refine B9 (fun h1=>?_) (fun h1=>?_)
   ·have hk:kn (l.getD (i:Int).toNat default).sku=false:=by simpa using h1
    rw [h1];conv=>whnf
    rw [A4t hi' hok (by show K1 kn (l.getD (i:Int).toNat default)=true;unfold K1;rw [hk];rfl)] at hc
    simp only at hc
    rw [if_neg (by rw [show kn (l.getD i default).sku=false from hk];simp)] at hc
    exact ⟨by rw [hc];rfl,rfl⟩
   ·have hk:kn (l.getD (i:Int).toNat default).sku=true:=by simpa using h1
    rw [h1];conv=>whnf
    refine I2 (C8Q (l.getD (i:Int).toNat default) _) ?_
    refine B9 (fun h2=>?_) (fun h2=>?_)
    ·have hl:lineC (l.getD (i:Int).toNat default)=false:=by simpa using h2
     rw [h2];conv=>whnf
     rw [A4t hi' hok (by show K1 kn (l.getD (i:Int).toNat default)=true;unfold K1;rw [hl,D7h];rfl)] at hc
     simp only at hc
     rw [if_pos (show kn (l.getD i default).sku=true from hk)] at hc
     exact ⟨by rw [hc];rfl,rfl⟩
    ·have hl:lineC (l.getD (i:Int).toNat default)=true:=by simpa using h2
     rw [h2];conv=>whnf
     refine G2 ?_
     exact ⟨l.length - (i+1),by omega,i+1,by omega,H5 hok (by show K1 kn (l.getD (i:Int).toNat default)=false;unfold K1;rw [hk,hl];rfl),rfl,by rw [B4 (by omega)],rfl⟩
theorem C3f (s:C8) (st:St):S P 262 [eS s] st fun v st'=>v=.bool true∧st'=st:=by
 refine F4 [] Tryz.func262 ?_
 exact ⟨rfl,rfl⟩
theorem D0b (l:List E8) (st:St):S P 224 [A8 3 J1 l] st fun v st'=>v=.bool (O6 (fun _=>true) l==0)∧st'=st:=by
 refine F4 [] Tryz.func224 ?_
 refine I2 (B9K l (fun _=>true) _ [] _ fun x _=>C3f x.sku _) ?_
 exact ⟨rfl,rfl⟩
theorem C6A (items:List Ab.Item) (hl:items.length≤9223372036854775807) (s:C8) (st:St):S P 261 [eS s,.fptr (A8 4 E9 items) 0] st fun v st'=>v=.bool (decide (P9 items s≥0))∧st'=st:=by
 refine F4 [] Tryz.func261 ?_
 refine I2 (B8g items s hl _) ?_
 exact ⟨rfl,rfl⟩
def known (items:List Ab.Item) (s:C8):Bool:=decide (P9 items s≥0)
theorem C5M (items:List Ab.Item) (l:List E8) (hl:items.length≤9223372036854775807) (st:St):S P 223 [A8 4 E9 items,A8 3 J1 l] st fun v st'=>v=eI (O6 (known items) l)∧st'=st:=by
 refine F4 [2] Tryz.func223 ?_
 refine I2 (B9K l (known items) _ [.fptr (A8 4 E9 items) 0] _ fun x _=>C6A items hl x.sku _) ?_
 exact ⟨rfl,rfl⟩
def C3 (items:List Ab.Item) (l:List E8):List Ab.Item:=l.map fun x=>items.getD (P9 items x.sku).toNat default
theorem A9w (items:List Ab.Item) (l:List E8) (hi:items.length≤9223372036854775807) (hl:l.length≤1000) (hk:∀ x∈l,known items x.sku=true) (st:St):S P 123 [A8 4 E9 items,A8 3 J1 l] st fun v st'=>v=A8 4 E9 (C3 items l)∧st'=st:=by
 have he:A8 4 E9 (C3 items l)=.arr 4 l.length (fun k=>E9 ((C3 items l).getD k default)):=by unfold A8;rw [show (C3 items l).length=l.length from D6J ..]
 rw [he]
 refine C2V (ty:=86) ?_
 refine F4 [7] Tryz.func123 ?_
 refine ⟨[0,5,9,10,11],fun m vs st'=>∃ (i:Nat) (sv:AV),i≤l.length∧m=l.length - i∧vs=[A8 4 E9 items,sv,A8 3 J1 l,eI l.length,eI i]∧Col 86 4 (fun k=>E9 ((C3 items l).getD k default)) st i sv st',?_,?_⟩
 ·conv=>whnf
  exact ⟨_,0,.emp,D7e _,rfl,rfl,Col.start _ _ _ _⟩
 ·rintro m vs st' ⟨i,sv,hi,rfl,rfl,hc⟩
  conv=>whnf
  cases h:decide ((i:Int)<(l.length:Int))
  ·have:=D6G h
   obtain rfl:i=l.length:=by omega
   conv=>whnf
   exact hc
  ·have hi':i<l.length:=by have:=D6H h;omega
   have hmem:l.getD (i:Int).toNat default∈l:=A7 hi'
   have hkn:=hk _ hmem
   simp only [known,D6F] at hkn
   have hlt:P9 items (l.getD (i:Int).toNat default).sku<(items.length:Int):=(A9u (fun x:Ab.Item=>x.sku.toList==(l.getD (i:Int).toNat default).sku.toList) items).2
   conv=>whnf
   refine E7 ?_
   refine I2 (B8g items (l.getD (i:Int).toNat default).sku (by omega) _) ?_
   refine B9 (fun h1=>?_) (fun h1=>?_)
   ·exact absurd (D6H h1) (by omega)
   ·rw [h1];conv=>whnf
    refine E7 ?_
    refine Col.app rfl rfl rfl rfl rfl ?_ (by show (i+1) * 48≤140737488355328;omega) hc (fun sv' st'' hc'=>?_)
    ·have e:(C3 items l).getD i default=items.getD (P9 items (l.getD i default).sku).toNat default:=D4 (fun x:E8=>items.getD (P9 items x.sku).toNat default) l hi'
     rw [e];rfl
    conv=>whnf
    refine G2 ?_
    exact ⟨l.length - (i+1),by omega,i+1,sv',by omega,rfl,by rw [B4 (by omega)],hc'⟩
abbrev Sm (n:Nat):Prop:=n≤9223372036854775807
theorem A2m (s:C8) (hs:Sm s.size) (st:St):S P 74 [eS s] st fun v st'=>v=.bool (D1 s)∧st'=st:=by
 refine F4 [] Tryz.func74 ?_
 refine lp s.size [0,3] (fun i vs st'=>(∀ k,k<i→okc (chr s k)=true)∧vs=[eS s,eI i]∧st'=st) ?_ ?_
 ·conv=>whnf
  exact ⟨fun k hk=>absurd hk (by omega),rfl,rfl⟩
 ·rintro i vs st' hi ⟨hok,rfl,rfl⟩
  conv=>whnf
  cases h:decide ((i:Int)<(s.size:Int))
  ·obtain rfl:=C5 h hi
   have e:D1 s=(decide ((s.size:Int)≥1)&&decide ((s.size:Int)≤12)):=by
    unfold D1
    rw [A6P hok,D7u]
    congr 1<;>exact D8s.2 (by omega)
   rw [e];conv=>whnf
   refine B9 (fun h1=>?_) (fun h1=>?_)<;>rw [h1]<;>(conv=>whnf)<;>exact ⟨rfl,rfl⟩
  ·have hi':=E2 h
   have no:okc (chr s i)=false→D1 s=false:=fun h=>by unfold D1;rw [A4y hi' h,D7h]
   have yes:okc (chr s i)=true→∀ k,k<i+1→okc (chr s k)=true:=fun h=>H5 hok h
   conv=>whnf
   refine C6y (i:=i) rfl hi' ?_
   generalize chr s i=c at *
   repeat' ((conv=>whnf);refine B9 (fun h=>?_) (fun h=>?_)<;>rw [h])
   all_goals (conv=>whnf)
   all_goals first
    | (refine ⟨?_,rfl⟩
       rw [no (by rw [←D7K,B0L];simp only [D6X,D7q,D7B,D7p,ne_eq,D6F,D6E] at *;omega)]
       rfl)
    | (refine ⟨rfl,?_⟩
       conv=>whnf
       exact nx hi' ⟨yes ((B0L c).2 (by simp only [D6X,D7q,D7B,D7p,ne_eq,D6F,D6E] at *;omega)),by rw [B4 (by omega)],rfl⟩)
theorem A2R (x m:Int) (st:St):S P 136 [eI x,eI m] st fun v st'=>v=.bool (N9 0 m x)∧st'=st:=by
 refine F4 [] Tryz.func136 ?_
 unfold N9
 refine B9 (fun h=>?_) (fun h=>?_)<;>rw [h]<;>(conv=>whnf)<;>exact ⟨rfl,rfl⟩
theorem B8S (l:List C8) (s:C8) (hl:Sm l.length) (st:St):S P 213 [C7 l,eS s] st fun v st'=>v=.bool (l.any fun y=>y.toList==s.toList)∧st'=st:=by
 refine F4 [] Tryz.func213 ?_
 refine lp l.length [0,1,5] (fun i vs st'=>(∀ k,k<i→((l.getD k default).toList==s.toList)=false)∧vs=[C7 l,eS s,eI i]∧st'=st) ?_ ?_
 ·conv=>whnf
  exact ⟨fun k hk=>absurd hk (by omega),rfl,rfl⟩
 ·rintro i vs st' hi ⟨hok,rfl,rfl⟩
  conv=>whnf
  cases h:decide ((i:Int)<(l.length:Int))
  ·obtain rfl:=C5 h hi
   conv=>whnf
   refine ⟨?_,rfl⟩
   rw [D7R.2 fun x hx=>by obtain ⟨k,hk,rfl⟩:=D5 hx;rw [hok k hk];simp];rfl
  ·have hi':=E2 h
   conv=>whnf
   refine E7 ?_
   cases h1:((l.getD (i:Int).toNat default).toList==s.toList)
   ·conv=>whnf
    refine G2 ?_
    exact nx hi' ⟨H5 hok h1,by rw [B4 (by omega)],rfl⟩
   ·conv=>whnf
    refine ⟨?_,rfl⟩
    rw [D8r.2 ⟨_,A7 hi',h1⟩];rfl
theorem C0q (a b:C8):(Op.bytesLess a.toList b.toList||a.toList==b.toList)=!slt b a:=by
 show (slt a b||_)=_
 cases h:slt a b with
 | true=>rw [A7e h];rfl
 | false =>
  cases h2:slt b a with
  | true =>
   rw [D7r,D7s,D7p]
   intro e
   rw [B4b e.symm e,h] at h2;cases h2
  | false=>rw [D7r,D7B.2 (A7f h h2)];rfl
theorem B2q (l:List C8) (m:Int) (hl:Sm l.length) (hs:∀ s∈l,Sm s.size) (st:St):S P 132 [C7 l,eI m] st fun v st'=>v=.bool (A0P l&&decide ((l.length:Int)≤m))∧st'=st:=by
 have hN:A0P l=L3 l fun k x=>D1 x&&O9 l k:=by
  unfold A0P A0p L3
  rw [←D8N]
  simp only [D6I,D6W,D6T,D6X,D7R,D7K,D7q]
  exact ⟨fun ⟨a,b⟩ k hk=>⟨D9c _▸b _ (A7 hk),a k hk⟩,fun h=>⟨fun k hk=>(h k hk).2,fun x hx=>by obtain ⟨k,hk,rfl⟩:=D5 hx;rw [(h k hk).1];simp⟩⟩
 rw [hN]
 refine F4 [] Tryz.func132 ?_
 refine lp l.length [0,1,5] (fun i vs st'=>(∀ k,k<i→(D1 (l.getD k default)&&O9 l k)=true)∧vs=[C7 l,eI m,eI i]∧st'=st) ?_ ?_
 ·conv=>whnf
  exact ⟨fun k hk=>absurd hk (by omega),rfl,rfl⟩
 ·rintro i vs st' hi ⟨hok,rfl,rfl⟩
  conv=>whnf
  cases h:decide ((i:Int)<(l.length:Int))
  ·obtain rfl:=C5 h hi
   conv=>whnf
   rw [K8 hok]
   exact ⟨rfl,rfl⟩
  ·have hi':=E2 h
   have yes:(D1 (l.getD (i:Int).toNat default)&&O9 l i)=true→∀ k,k<i+1→(D1 (l.getD k default)&&O9 l k)=true:=fun h=>H5 hok h
   have no:(D1 (l.getD (i:Int).toNat default)&&O9 l i)=false→(L3 l fun k x=>D1 x&&O9 l k)=false:=fun h=>X2 hi' h
   conv=>whnf
   refine ⟨[],[],List.range 22,by kernel_rfl,?_⟩;conv=>whnf
   refine E7 ?_
   have n1:=A2m (l.getD (i:Int).toNat default) (hs _ (A7 hi')) st'
   generalize D1 (l.getD (i:Int).toNat default)=b1 at n1 no yes
   refine cqW n1 ?_
   cases b1
   ·conv=>whnf
    rw [no rfl]
    exact ⟨rfl,rfl⟩
   ·rw [D6Y] at no yes;conv=>whnf
    cases h2:decide ((i:Int)>0)
    ·have h0:i=0:=by have:=D6G h2;omega
     conv=>whnf
     refine G2 ?_
     exact nx hi' ⟨yes (by rw [h0];rfl),by rw [B4 (by omega)],rfl⟩
    ·have hp:0<i:=by have:=D6H h2;omega
     have hw:IntKind.i64.wrap ((i:Int) - 1)=((i - 1:Nat):Int):=by rw [A5 (by omega) (by omega)];omega
     have e:O9 l i=!(Op.bytesLess (l.getD (i:Int).toNat default).toList (l.getD ((i - 1:Nat):Int).toNat default).toList||(l.getD (i:Int).toNat default).toList==(l.getD ((i - 1:Nat):Int).toNat default).toList):=by
      rw [C0q,D7Y]
      unfold O9
      rw [D6R,D6R,D8t (by omega),D7r]
     rw [e] at yes no;conv=>whnf
     refine E7 ?_
     rw [hw]
     refine E7 ?_
     generalize (Op.bytesLess (l.getD (i:Int).toNat default).toList (l.getD ((i - 1:Nat):Int).toNat default).toList||(l.getD (i:Int).toNat default).toList==(l.getD ((i - 1:Nat):Int).toNat default).toList)=b at *
     cases b
     ·conv=>whnf
      refine G2 ?_
      exact nx hi' ⟨yes rfl,by rw [B4 (by omega)],rfl⟩
     ·conv=>whnf
      rw [no rfl]
      exact ⟨rfl,rfl⟩
structure A2h (s:W4):Prop where
 n1:Sm s.skus.length
 n2:Sm s.cats.length
 s1:∀ x∈s.skus,Sm x.size
 s2:∀ x∈s.cats,Sm x.size
theorem B6V (s:W4) (h:A2h s) (st:St):S P 239 [A3Y s] st fun v st'=>v=.bool (A0q s)∧st'=st:=by
 refine F4 [1] Tryz.func239 ?_
 refine B3 (B2q s.skus 20 h.n1 h.s1 st) ?_
 have e:A0q s=((A0P s.skus&&decide ((s.skus.length:Int)≤20))&&(A0P s.cats&&decide ((s.cats.length:Int)≤20))):=by
  unfold A0q
  rw [Bool.and_comm (decide _),Bool.and_comm (decide (s.cats.length≤20))]
  rw [show decide ((s.skus.length:Int)≤20)=decide (s.skus.length≤20) from D8s.2 (by omega),show decide ((s.cats.length:Int)≤20)=decide (s.cats.length≤20) from D8s.2 (by omega)]
 rw [e]
 cases (A0P s.skus&&decide ((s.skus.length:Int)≤20))
 ·conv=>whnf
  exact ⟨rfl,rfl⟩
 ·conv=>whnf
  refine I2 (B2q s.cats 20 h.n2 h.s2 st) ?_
  exact ⟨rfl,rfl⟩
theorem B5d (l:List Ab.Item) (s:C8) (hl:Sm l.length) (st:St):S P 96 [A8 4 E9 l,eS s] st fun v st'=>v=eI (P9 l s)∧st'=st:=by
 refine F4 [] Tryz.func96 ?_
 refine lp l.length [0,1,5] (fun i vs st'=>(∀ k,k<i→((l.getD k default).sku.toList==s.toList)=false)∧vs=[A8 4 E9 l,eS s,eI i]∧st'=st) ?_ ?_
 ·conv=>whnf
  exact ⟨fun k hk=>absurd hk (by omega),rfl,rfl⟩
 ·rintro i vs st' hi ⟨hok,rfl,rfl⟩
  conv=>whnf
  cases h:decide ((i:Int)<(l.length:Int))
  ·obtain rfl:=C5 h hi
   conv=>whnf
   exact ⟨by rw [show P9 l s = -1 from T8 fun k hk=>hok k hk];rfl,rfl⟩
  ·have hi':=E2 h
   conv=>whnf
   refine E7 ?_
   refine B9 (fun h1=>?_) (fun h1=>?_)<;>rw [h1]
   ·conv=>whnf
    exact ⟨by rw [show P9 l s=i from A1B hi' hok h1];rfl,rfl⟩
   ·conv=>whnf
    refine G2 ?_
    exact nx hi' ⟨H5 hok h1,by rw [B4 (by omega)],rfl⟩
theorem B5f {L:List C8} {i:Nat} (hp:0<i):O9 L i=!(Op.bytesLess (L.getD i default).toList (L.getD (i - 1) default).toList||(L.getD i default).toList==(L.getD (i - 1) default).toList):=by
 rw [C0q,D7Y]
 unfold O9
 rw [D8t (by omega),D7r]
theorem A7x {i:Nat} (h:0<i) (h2:i<9223372036854775807):IntKind.i64.wrap ((i:Int) - 1)=((i - 1:Nat):Int):=by rw [A5 (by omega) (by omega)];omega
def A6c (l:List Ab.Item) (k:Nat) (x:Ab.Item):Bool:=D1 x.sku&&D1 x.cat&&N9 0 1000000000 x.price&&O9 (l.map Ab.Item.sku) k
theorem C4E (l:List Ab.Item) (hl:Sm l.length) (hs:∀ x∈l,Sm x.sku.size∧Sm x.cat.size) (st:St):S P 133 [A8 4 E9 l] st fun v st'=>v=.bool (A1C l)∧st'=st:=by
 have hN:A1C l=(L3 l (A6c l)&&decide ((l.length:Int)≤500)):=by
  unfold A1C L3 A0p A6c A4v N9
  rw [D6J,←D8N]
  simp only [D6I,D6W,D6T,D6X,D7Q,D7q,D6F,D6E]
  constructor
  ·rintro ⟨h1,h2,h3⟩
   exact ⟨fun k hk=>⟨⟨⟨(h2 k hk).1.1.1,(h2 k hk).1.1.2⟩,by have:=(h2 k hk).1.2;have:=(h2 k hk).2;omega⟩,h3 k hk⟩,by omega⟩
  ·rintro ⟨h1,h2⟩
   exact ⟨by omega,fun k hk=>⟨⟨⟨(h1 k hk).1.1.1,(h1 k hk).1.1.2⟩,by have:=(h1 k hk).1.2;omega⟩,by have:=(h1 k hk).1.2;omega⟩,fun k hk=>(h1 k hk).2⟩
 rw [hN]
 refine F4 [] Tryz.func133 ?_
 refine lp l.length [0,3] (fun i vs st'=>(∀ k,k<i→A6c l k (l.getD k default)=true)∧vs=[A8 4 E9 l,eI i]∧st'=st) ?_ ?_
 ·conv=>whnf
  exact ⟨fun k hk=>absurd hk (by omega),rfl,rfl⟩
 ·rintro i vs st' hi ⟨hok,rfl,rfl⟩
  conv=>whnf
  cases h:decide ((i:Int)<(l.length:Int))
  ·obtain rfl:=C5 h hi
   conv=>whnf
   rw [K8 hok]
   exact ⟨rfl,rfl⟩
  ·have hi':=E2 h
   have yes:A6c l i (l.getD (i:Int).toNat default)=true→∀ k,k<i+1→A6c l k (l.getD k default)=true:=fun h=>H5 hok h
   have no:A6c l i (l.getD (i:Int).toNat default)=false→L3 l (A6c l)=false:=fun h=>X2 hi' h
   have hm:=hs _ (A7 hi')
   have n1:=A2m (l.getD (i:Int).toNat default).sku hm.1 st'
   have n2:=A2m (l.getD (i:Int).toNat default).cat hm.2 st'
   have n3:=A2R (l.getD (i:Int).toNat default).price 1000000000 st'
   have e:0<i→O9 (l.map Ab.Item.sku) i=!(Op.bytesLess (l.getD i default).sku.toList (l.getD (i - 1) default).sku.toList||(l.getD i default).sku.toList==(l.getD (i - 1) default).sku.toList):=fun hp=>by
    rw [B5f hp]
    have e1:(l.map Ab.Item.sku).getD i default=(l.getD i default).sku:=D4 Ab.Item.sku l hi'
    have e2:(l.map Ab.Item.sku).getD (i - 1) default=(l.getD (i - 1) default).sku:=D4 Ab.Item.sku l (by omega)
    rw [e1,e2]
   have e0:i=0→O9 (l.map Ab.Item.sku) i=true:=fun h=>by rw [h];rfl
   rw [show A6c l i (l.getD (i:Int).toNat default)=(D1 (l.getD (i:Int).toNat default).sku&&D1 (l.getD (i:Int).toNat default).cat&&N9 0 1000000000 (l.getD (i:Int).toNat default).price&&O9 (l.map Ab.Item.sku) i) from rfl] at yes no
   generalize D1 (l.getD (i:Int).toNat default).sku=b1 at n1 yes no
   generalize D1 (l.getD (i:Int).toNat default).cat=b2 at n2 yes no
   generalize N9 0 1000000000 (l.getD (i:Int).toNat default).price=b3 at n3 yes no
   conv=>whnf
   refine ⟨[],[],List.range 43,by kernel_rfl,?_⟩
   cases h0:decide ((i:Int)>0)
   ·have h0':i=0:=by have:=D6G h0;omega
    replace e:=e0 h0'
    repeat' ((conv=>whnf);first | refine ⟨rfl,⟨by omega,by omega⟩,?_⟩ | refine ⟨_,H8 n1,?_⟩ | refine ⟨_,H8 n2,?_⟩ | refine ⟨_,H8 n3,?_⟩ | rw [h0] | cases b1 | cases b2 | cases b3)
    all_goals (conv=>whnf)
    all_goals first
     | (rw [no (by rfl)];exact ⟨rfl,rfl⟩)
     | (refine ⟨rfl,?_⟩;conv=>whnf
        exact nx hi' ⟨yes (by rw [e];rfl),by rw [B4 (by omega)],rfl⟩)
   ·have h0':0<i:=by have:=D6H h0;omega
    replace e:=e h0'
    have hw:=A7x h0' (by omega)
    repeat' ((conv=>whnf);first | refine ⟨rfl,⟨by omega,by omega⟩,?_⟩ | refine ⟨rfl,⟨by rw [hw];omega,by rw [hw];omega⟩,?_⟩ | refine ⟨_,H8 n1,?_⟩ | refine ⟨_,H8 n2,?_⟩ | refine ⟨_,H8 n3,?_⟩ | rw [h0] | cases b1 | cases b2 | cases b3 | refine B9 (fun h=>?_) (fun h=>?_))
    all_goals (conv=>whnf)
    all_goals first
     | (rw [no (by rfl)];exact ⟨rfl,rfl⟩)
     | (rw [hw] at h;rw [no (by rw [e];exact D8E not h)];exact ⟨rfl,rfl⟩)
     | (rw [hw] at h;refine ⟨rfl,?_⟩;conv=>whnf
        exact nx hi' ⟨yes (by rw [e];exact D8E not h),by rw [B4 (by omega)],rfl⟩)
end Go.Proofs.YtaapofnkmpiknaaGreat
namespace Go.Ab
abbrev QE:=Int×Int
def G6 (a b:QE):Bool:=decide (a.1>b.1)||(a.1==b.1&&decide (a.2<b.2))
theorem A9I (a b:QE):G6 a b=true↔a.1>b.1∨(a.1=b.1∧a.2<b.2):=by simp [G6]
theorem S4 (a b:QE):G6 a b=false↔¬(a.1>b.1∨(a.1=b.1∧a.2<b.2)):=by rw [←A9I,D7K]
theorem A0n {a b:QE} (h:G6 a b=true):G6 b a=false:=by rw [A9I] at h;rw [S4];omega
theorem A3c (a:QE):G6 a a=false:=by rw [S4];omega
theorem A0D {a b c:QE} (h:G6 a b=false) (k:G6 b c=false):G6 a c=false:=by rw [S4] at *;omega
theorem C8S {a b c:QE} (h:G6 a b=false) (k:G6 c b=true):G6 a c=false:=by rw [S4] at *;rw [A9I] at k;omega
theorem A4B {a b:QE} (h:G6 a b=false) (k:G6 b a=false):a=b:=by
 rw [S4] at *
 exact Prod.ext (by omega) (by omega)
abbrev at_ (l:List QE) (k:Nat):QE:=l.getD k default
def swp (l:List QE) (i j:Nat):List QE:=(l.set i (at_ l j)).set j (at_ l i)
theorem B5z (l:List QE) (i j:Nat):(swp l i j).length=l.length:=by simp [swp]
theorem A7Y {l:List QE} {i j:Nat} (hi:i<l.length) (hj:j<l.length) (k:Nat):at_ (swp l i j) k=if k=j then at_ l i else if k=i then at_ l j else at_ l k:=by
 unfold swp at_
 simp only [D6D,D8G,D7W]
 by_cases h1:k=j
 ·subst h1;simp [hj]
 ·rw [if_neg (fun e=>h1 e.symm),if_neg h1]
  by_cases h2:k=i
  ·subst h2;simp [hi]
  ·rw [if_neg (fun e=>h2 e.symm),if_neg h2]
theorem B2F {l:List QE} {i j:Nat} (hi:i<l.length) (hj:j<l.length):(swp l i j).Perm l:=by
 have e1:at_ l j=l[j]:=by simp [at_,hj]
 have e2:at_ l i=l[i]:=by simp [at_,hi]
 unfold swp
 rw [e1,e2]
 exact List.set_set_perm hi hj
def Nah (l:List QE) (c p:Nat):Prop:=G6 (at_ l c) (at_ l p)=false
def Z9 (c:Nat):Nat:=(c - 1) / 2
def A5Q (l:List QE) (m:Nat):Prop:=∀ c,0<c→c<m→Nah l c (Z9 c)
structure Rise (l:List QE) (m j:Nat):Prop where
 a:∀ c,0<c→c<m→c≠j→Nah l c (Z9 c)
 b:∀ c,0<c→c<m→Z9 c=j→0<j→Nah l c (Z9 j)
structure Sink (l:List QE) (m i:Nat):Prop where
 a:∀ c,0<c→c<m→Z9 c≠i→Nah l c (Z9 c)
 b:∀ c,0<c→c<m→Z9 c=i→0<i→Nah l c (Z9 i)
theorem Rise.done {l:List QE} {m j:Nat} (h:Rise l m j) (hj:j=0∨Nah l j (Z9 j)):A5Q l m:=fun c h0 hc=>by
 by_cases e:c=j
 ·subst e;rcases hj with hj | hj
  ·omega
  ·exact hj
 ·exact h.a c h0 hc e
theorem Rise.step {l:List QE} {m j:Nat} (h:Rise l m j) (hm:m≤l.length) (hj:j<m) (h0:0<j) (ha:G6 (at_ l j) (at_ l (Z9 j))=true):Rise (swp l (Z9 j) j) m (Z9 j):=by
 have hp:Z9 j<j:=by unfold Z9;omega
 have sw:=A7Y (l:=l) (i:=Z9 j) (j:=j) (by omega) (by omega)
 refine ⟨fun c hc0 hcm hne=>?_,fun c hc0 hcm hpc hp0=>?_⟩
 ·have hpc:Z9 c<c:=by unfold Z9;omega
  unfold Nah
  rw [sw c,sw (Z9 c)]
  by_cases ecj:c=j
  ·subst ecj
   rw [if_pos rfl,if_neg (by omega),if_pos rfl]
   exact A0n ha
  ·rw [if_neg ecj,if_neg hne]
   by_cases epj:Z9 c=j
   ·rw [if_pos epj];exact h.b c hc0 hcm epj h0
   ·rw [if_neg epj]
    by_cases epi:Z9 c=Z9 j
    ·rw [if_pos epi]
     have:=h.a c hc0 hcm ecj
     unfold Nah at this;rw [epi] at this
     exact C8S this ha
    ·rw [if_neg epi];exact h.a c hc0 hcm ecj
 ·have hpp:Z9 (Z9 j)<Z9 j:=by unfold Z9 at *;omega
  have hpj:=h.a (Z9 j) hp0 (by omega) (by omega)
  unfold Nah at *
  rw [sw c,sw (Z9 (Z9 j)),if_neg (show ¬ Z9 (Z9 j)=j by omega),if_neg (show ¬ Z9 (Z9 j)=Z9 j by omega)]
  by_cases ecj:c=j
  ·rw [if_pos ecj];exact hpj
  ·rw [if_neg ecj,if_neg (show ¬ c=Z9 j by unfold Z9 at *;omega)]
   have:=h.a c hc0 hcm ecj
   unfold Nah at this;rw [hpc] at this
   exact A0D this hpj
theorem Sink.done {l:List QE} {m i:Nat} (h:Sink l m i) (hc:∀ c,0<c→c<m→Z9 c=i→Nah l c i):A5Q l m:=fun c h0 hcm=>by
 by_cases e:Z9 c=i
 ·rw [e];exact hc c h0 hcm e
 ·exact h.a c h0 hcm e
theorem Sink.step {l:List QE} {m i j:Nat} (h:Sink l m i) (hm:m≤l.length) (hj:j<m) (h0:0<j) (hp:Z9 j=i) (ha:G6 (at_ l j) (at_ l i)=true)
  (hb:∀ c,0<c→c<m→Z9 c=i→Nah l c j):Sink (swp l i j) m j:=by
 have hij:i<j:=by rw [←hp];unfold Z9;omega
 have sw:=A7Y (l:=l) (i:=i) (j:=j) (by omega) (by omega)
 refine ⟨fun c hc0 hcm hne=>?_,fun c hc0 hcm hpc hp0=>?_⟩
 ·have hpc:Z9 c<c:=by unfold Z9;omega
  unfold Nah
  rw [sw c,sw (Z9 c),if_neg hne]
  by_cases ecj:c=j
  ·subst ecj
   rw [if_pos rfl,if_pos hp]
   exact A0n ha
  ·rw [if_neg ecj]
   by_cases epi:Z9 c=i
   ·rw [if_pos epi,if_neg (by omega)]
    exact hb c hc0 hcm epi
   ·rw [if_neg epi]
    by_cases eci:c=i
    ·rw [if_pos eci]
     subst eci
     exact h.b j h0 hj hp hc0
    ·rw [if_neg eci];exact h.a c hc0 hcm epi
 ·have:j<c:=by unfold Z9 at hpc;omega
  unfold Nah
  rw [hp,sw c,sw i,if_neg (show ¬ c=j by omega),if_neg (show ¬ c=i by omega),if_neg (show ¬ i=j by omega),if_pos rfl]
  have:=h.a c hc0 hcm (by omega)
  unfold Nah at this;rw [hpc] at this;exact this
theorem A5Q.top {l:List QE} {m:Nat} (h:A5Q l m):∀ k,k<m→Nah l k 0:=by
 intro k
 induction k using Nat.strongRecOn with
 | _ k ih =>
  intro hk
  rcases D8b k with e | e
  ·subst e;exact A3c _
  ·have hp:Z9 k<k:=by unfold Z9;omega
   exact A0D (h k e hk) (ih (Z9 k) hp (by omega))
theorem A5Q.up {l:List QE} {m:Nat} (h:A5Q l m) (x:QE) (hm:m=l.length):Rise (l++[x]) (m+1) m:=by
 have old:∀ k,k<m→at_ (l++[x]) k=at_ l k:=fun k hk=>by
  unfold at_;rw [D6D,D6D,D7b (by omega)]
 refine ⟨fun c h0 hc hne=>?_,fun c h0 hc hpc hm0=>?_⟩
 ·have hp:Z9 c<c:=by unfold Z9;omega
  unfold Nah
  rw [old c (by omega),old (Z9 c) (by omega)]
  exact h c h0 (by omega)
 ·unfold Z9 at hpc;omega
theorem A5Q.down {l:List QE} {m:Nat} (h:A5Q l (m+1)) (hm:m<l.length):Sink (swp l 0 m) m 0:=by
 have sw:=A7Y (l:=l) (i:=0) (j:=m) (by omega) (by omega)
 refine ⟨fun c h0 hc hne=>?_,fun c h0 hc hpc h00=>by omega⟩
 have hp:Z9 c<c:=by unfold Z9;omega
 unfold Nah
 rw [sw c,sw (Z9 c),if_neg (by omega),if_neg (by omega),if_neg (by omega),if_neg hne]
 exact h c h0 (by omega)
end Go.Ab
namespace Go.Proofs.YtaapofnkmpiknaaGreat
open Go Go.Ab
attribute [local irreducible] upd del
def A5Z (x:QE):AV:=.agg [eI x.1,eI x.2]
def A3l (st:St) (b:Nat) (l:List QE):Prop:=∃ f,st b=some ⟨320,2,l.length,f⟩∧∀ k,k<l.length→f k=A5Z (at_ l k)
theorem B1y (b:Nat) (l:List QE) (n i j:Nat) (st:St) (h:A3l st b l) (hn:n≤l.length) (hi:i<n) (hj:j<n) :
  S P 362 [.own 2 b 0 n,eI i,eI j] st fun v st'=>v=.bool (G6 (at_ l i) (at_ l j))∧st'=st:=by
 obtain ⟨f,hst,hf⟩:=h
 refine F4 [] Tryz.func362 ?_
 refine ⟨[],[],[0,1,2,3,4,5,6,7,8,9,10,11,12,13,14,15,16,17,18,19,20,21,22,23,24,25,26,27,28,29,30,31,32,33,34,35,36,37],by kernel_rfl,?_⟩;conv=>whnf
 have fi:f (0+(i:Int).toNat)=A5Z (at_ l i):=by rw [D6Q];exact hf i (by omega)
 have fj:f (0+(j:Int).toNat)=A5Z (at_ l j):=by rw [D6Q];exact hf j (by omega)
 have li:0+(i:Int).toNat<l.length:=by omega
 have lj:0+(j:Int).toNat<l.length:=by omega
 refine E7 ?_
 refine ldV hst rfl li fi ?_;conv=>whnf
 refine E7 ?_
 refine ldV hst rfl lj fj ?_;conv=>whnf
 unfold G6
 refine B9 (fun h1=>?_) (fun h1=>?_)<;>rw [h1]
 ·conv=>whnf
  exact ⟨rfl,rfl⟩
 conv=>whnf
 refine E7 ?_
 refine ldV hst rfl li fi ?_;conv=>whnf
 refine E7 ?_
 refine ldV hst rfl lj fj ?_;conv=>whnf
 refine B9 (fun h2=>?_) (fun h2=>?_)<;>rw [h2]
 ·conv=>whnf
  refine E7 ?_
  refine ldV hst rfl li fi ?_;conv=>whnf
  refine E7 ?_
  refine ldV hst rfl lj fj ?_;conv=>whnf
  exact ⟨rfl,rfl⟩
 ·conv=>whnf
  exact ⟨rfl,rfl⟩
theorem len_S (b n:Nat) (st:St):S P 361 [.own 2 b 0 n] st fun v st'=>v=eI n∧st'=st:=by
 refine F4 [] Tryz.func361 ?_
 exact ⟨rfl,rfl⟩
theorem B9k (b:Nat) (l:List QE) (n i j:Nat) (st:St) (h:A3l st b l) (hn:n≤l.length) (hi:i<n) (hj:j<n) :
  S P 363 [.own 2 b 0 n,eI i,eI j] st fun v st'=>v=.tuple []∧A3l st' b (swp l i j)∧∀ c,c≠b→st' c=st c:=by
 obtain ⟨f,hst,hf⟩:=h
 refine F4 [] Tryz.func363 ?_
 have fi:f (0+(i:Int).toNat)=A5Z (at_ l i):=by rw [D6Q];exact hf i (by omega)
 have fj:f (0+(j:Int).toNat)=A5Z (at_ l j):=by rw [D6Q];exact hf j (by omega)
 have li:0+(i:Int).toNat<l.length:=by omega
 have lj:0+(j:Int).toNat<l.length:=by omega
 have ei:0+(i:Int).toNat=i:=by omega
 have ej:0+(j:Int).toNat=j:=by omega
 have hfj:I4 f (0+(i:Int).toNat) (Q2 (A5Z (at_ l i)) 0 (cellsOf (A5Z (at_ l j)))) (0+(j:Int).toNat)=A5Z (at_ l j):=by
  by_cases h:j=i
  ·subst h;rw [A4];rfl
  ·rw [H4 (by omega)];exact fj
 refine ⟨[13,15],[],[0,1,2,3,4,5,6,7,8,9,10,11,12,13,14,15],by kernel_rfl,?_⟩;conv=>whnf
 refine E7 ?_
 refine ldV hst rfl lj fj ?_;conv=>whnf
 refine E7 ?_
 refine ldV hst rfl li fi ?_;conv=>whnf
 refine E7 ?_
 refine stV hst rfl li fi (by rfl) ?_;conv=>whnf
 refine E7 ?_
 refine stV (v:=A5Z (at_ l j)) (A0 ..) rfl lj hfj (by rfl) ?_;conv=>whnf
 refine ⟨rfl,⟨_,by rw [A0,B5z],fun k hk=>?_⟩,fun c hc=>by rw [A9 hc,A9 hc]⟩
 rw [B5z] at hk
 rw [A7Y (by omega) (by omega)]
 by_cases h1:k=j
 ·subst h1
  rw [if_pos rfl,ej,A4];rfl
 ·rw [if_neg h1,H4 (by omega)]
  by_cases h2:k=i
  ·subst h2
   rw [if_pos rfl,ei,A4];rfl
  ·rw [if_neg h2,H4 (by omega)];exact hf k hk
def A4O (st:St) (q:Nat) (sv:AV):Prop:=∃ f,st q=some ⟨315,1,1,f⟩∧f 0=.agg [sv]
abbrev hI (q:Nat):AV:=.iface 318 (.optr 1 q 0 0)
theorem A4O.frame {st st':St} {q b:Nat} {sv:AV} (h:A4O st q sv) (hqb:q≠b) (hf:∀ c,c≠b→st' c=st c):A4O st' q sv:=by
 obtain ⟨f,h1,h2⟩:=h
 exact ⟨f,by rw [hf q hqb];exact h1,h2⟩
theorem D4d (j:Nat) (hj:j<4611686018427387904):IntKind.i64.wrap ((IntKind.i64.wrap ((j:Int) - 1)).tdiv 2)=((Z9 j:Nat):Int):=by
 rw [A5 (x:=(j:Int) - 1) (by omega) (by omega)]
 unfold Z9
 rcases D8b j with e | e
 ·subst e;rfl
 ·rw [D7Z (by omega),A5 (by omega) (by omega)];omega
theorem C9T (q b:Nat) (l:List QE) (j:Nat) (st:St) (hq:A4O st q (.own 2 b 0 l.length)) (hqb:q≠b) (he:A3l st b l) (hr:Ab.Rise l l.length j) (hj:j<l.length) (hl:l.length<4611686018427387904) :
  S P 290 [hI q,eI j] st fun v st'=>v=.tuple []∧∃ l',l'.Perm l∧A5Q l' l.length∧A3l st' b l'∧∀ c,c≠b→st' c=st c:=by
 refine F4 [] Tryz.func290 ?_
 refine ⟨[0,1],fun m vs st'=>∃ (j:Nat) (l':List QE),l'.Perm l∧A3l st' b l'∧(∀ c,c≠b→st' c=st c)∧Ab.Rise l' l.length j∧j<l.length∧m=j∧vs=[hI q,eI j],?_,?_⟩
 ·conv=>whnf
  exact ⟨_,j,l,List.Perm.refl _,he,fun c _=>rfl,hr,hj,rfl,rfl⟩
 ·clear hr hj he
  rintro j vs st' ⟨_,l',hp,he,hfr,hr,hj,rfl,rfl⟩
  have hlen:l'.length=l.length:=hp.length_eq
  obtain ⟨f,hqs,hq0⟩:=hq.frame hqb hfr
  have hpj:Z9 j≤j:=by unfold Z9;omega
  conv=>whnf
  rw [D4d j (by omega)]
  refine B9 (fun h1=>?_) (fun h1=>?_)<;>rw [h1]
  ·have:j=0:=by
    have:=D6H h1
    unfold Z9 at this;omega
   conv=>whnf
   exact ⟨rfl,l',hp,hr.done (.inl this),he,hfr⟩
  ·have hj0:0<j:=by
    rcases D8b j with e | e
    ·subst e;cases h1
    ·exact e
   conv=>whnf
   refine J6 hqs hq0 ?_
   refine I2 (B1y b l' l.length j (Z9 j) _ he (by omega) (by omega) (by omega)) ?_
   refine B9 (fun h2=>?_) (fun h2=>?_)<;>rw [h2]
   ·conv=>whnf
    exact ⟨rfl,l',hp,hr.done (.inr (by have:=h2;simp only [D6X] at this;exact this)),he,hfr⟩
   ·have h2':G6 (at_ l' j) (at_ l' (Z9 j))=true:=by have:=h2;simp only [D7q] at this;exact this
    have hlt:Z9 j<j:=by unfold Z9;omega
    conv=>whnf
    refine J6 hqs hq0 ?_
    refine call (B9k b l' l.length (Z9 j) j _ he (by omega) (by omega) (by omega)) (fun v st'' hv=>?_)
    obtain ⟨rfl,he',hfr'⟩:=hv
    conv=>whnf
    refine G2 ?_
    exact ⟨Z9 j,hlt,Z9 j,swp l' (Z9 j) j,(B2F (by omega) (by omega)).trans hp,he',fun c hc=>(hfr' c hc).trans (hfr c hc),hr.step (by omega) hj hj0 h2',by omega,rfl,rfl⟩
theorem j1W (i:Nat) (hi:i<2305843009213693952):IntKind.i64.wrap (IntKind.i64.wrap (2 * (i:Int))+1)=((2 * i+1:Nat):Int):=by
 rw [A5 (x:=2 * (i:Int)) (by omega) (by omega),A5 (by omega) (by omega)];omega
theorem C6u (q b:Nat) (l:List QE) (n m:Nat) (st:St) (hq:A4O st q (.own 2 b 0 n)) (hqb:q≠b) (he:A3l st b l) (hs:Ab.Sink l m 0) (hmn:m≤n) (hn:n≤l.length) (hl:l.length<2305843009213693952) :
  S P 291 [hI q,eI 0,eI m] st fun v st'=>(∃ x,v=.bool x)∧∃ l',l'.Perm l∧(∀ k,m≤k→at_ l' k=at_ l k)∧A5Q l' m∧A3l st' b l'∧∀ c,c≠b→st' c=st c:=by
 refine F4 [] Tryz.func291 ?_
 refine ⟨[0,1,2,7],fun t vs st'=>∃ (i:Nat) (l':List QE),l'.Perm l∧(∀ k,m≤k→at_ l' k=at_ l k)∧A3l st' b l'∧(∀ c,c≠b→st' c=st c)∧Ab.Sink l' m i∧i≤l.length∧t=l.length - i∧vs=[hI q,eI 0,eI m,eI i],?_,?_⟩
 ·conv=>whnf
  exact ⟨_,0,l,List.Perm.refl _,fun _ _=>rfl,he,fun c _=>rfl,hs,D7e _,rfl,rfl⟩
 ·clear hs he
  rintro t vs st' ⟨i,l',hp,hk,he,hfr,hs,hi,rfl,rfl⟩
  have hlen:l'.length=l.length:=hp.length_eq
  obtain ⟨f,hqs,hq0⟩:=hq.frame hqb hfr
  have kid:∀ c,0<c→(Z9 c=i↔c=2 * i+1∨c=2 * i+2):=fun c hc=>by unfold Z9;omega
  conv=>whnf
  rw [j1W i (by omega)]
  refine B9 (fun h1=>?_) (fun h1=>?_)<;>rw [h1]<;>simp only [D6F,D6E] at h1
  ·conv=>whnf
   exact ⟨⟨_,rfl⟩,l',hp,hk,hs.done (fun c hc0 hcm hpc=>by have:=(kid c hc0).1 hpc;omega),he,hfr⟩
  have him:2 * i+1<m:=by omega
  conv=>whnf
  have w2:IntKind.i64.wrap (((2 * i+1:Nat):Int)+1)=((2 * i+2:Nat):Int):=by rw [A5 (by omega) (by omega)];omega
  rw [w2]
  -- behind the choice of a child
  have tail:∀ (j:Nat),0<j→j<m→Z9 j=i→(∀ c,0<c→c<m→Z9 c=i→Nah l' c j)→∀ (K:KK),(∀ v st'' l'',v=.tuple []→l''.Perm l→(∀ k,m≤k→at_ l'' k=at_ l k)→A3l st'' b l''→(∀ c,c≠b→st'' c=st c)→G6 (at_ l' j) (at_ l' i)=true→Ab.Sink l'' m j→K v st'')→G6 (at_ l' j) (at_ l' i)=true→A1M P 363 [.own 2 b 0 n,eI i,eI j] st' K:=by
   intro j hj0 hjm hpj hbest K hK hpr
   have hij:i<j:=by rw [←hpj];unfold Z9;omega
   refine call (B9k b l' n i j _ he (by omega) (by omega) (by omega)) (fun v st'' hv=>?_)
   obtain ⟨rfl,he',hfr'⟩:=hv
   refine hK _ _ (swp l' i j) rfl ((B2F (by omega) (by omega)).trans hp) (fun k hkm=>?_) he' (fun c hc=>(hfr' c hc).trans (hfr c hc)) hpr (hs.step (by omega) hjm hj0 hpj hpr hbest)
   rw [A7Y (by omega) (by omega),if_neg (by omega),if_neg (by omega)];exact hk k hkm
  refine B9 (fun h3=>?_) (fun h3=>?_)<;>rw [h3]<;>simp only [D6F,D6E] at h3
  ·conv=>whnf
   refine J6 hqs hq0 ?_
   refine I2 (B1y b l' n (2 * i+2) (2 * i+1) _ he (by omega) (by omega) (by omega)) ?_
   refine B9 (fun h4=>?_) (fun h4=>?_)<;>rw [h4]
   ·have hbest:∀ c,0<c→c<m→Z9 c=i→Nah l' c (2 * i+2):=fun c hc0 hcm hpc=>by
     rcases (kid c hc0).1 hpc with e | e
     ·subst e;exact A0n h4
     ·subst e;exact A3c _
    conv=>whnf
    refine J6 hqs hq0 ?_
    refine I2 (B1y b l' n (2 * i+2) i _ he (by omega) (by omega) (by omega)) ?_
    refine B9 (fun h5=>?_) (fun h5=>?_)<;>rw [h5]
    ·conv=>whnf
     exact ⟨⟨_,rfl⟩,l',hp,hk,hs.done (fun c hc0 hcm hpc=>A0D (hbest c hc0 hcm hpc) (show Nah l' (2 * i+2) i by have:=h5;simp only [D6X] at this;exact this)),he,hfr⟩
    ·conv=>whnf
     refine J6 hqs hq0 ?_
     refine tail (2 * i+2) (by omega) (by omega) ((kid _ (by omega)).2 (.inr rfl)) hbest _ (fun v st'' l'' hv hp' hk' he' hfr' hpr hs'=>?_) (by have:=h5;simp only [D7q] at this;exact this)
     subst hv;conv=>whnf
     refine G2 ?_
     exact ⟨l.length - (2 * i+2),by omega,2 * i+2,l'',hp',hk',he',hfr',hs',by omega,rfl,rfl⟩
   ·have hbest:∀ c,0<c→c<m→Z9 c=i→Nah l' c (2 * i+1):=fun c hc0 hcm hpc=>by
     rcases (kid c hc0).1 hpc with e | e
     ·subst e;exact A3c _
     ·subst e;exact h4
    conv=>whnf
    refine J6 hqs hq0 ?_
    refine I2 (B1y b l' n (2 * i+1) i _ he (by omega) (by omega) (by omega)) ?_
    refine B9 (fun h5=>?_) (fun h5=>?_)<;>rw [h5]
    ·conv=>whnf
     exact ⟨⟨_,rfl⟩,l',hp,hk,hs.done (fun c hc0 hcm hpc=>A0D (hbest c hc0 hcm hpc) (show Nah l' (2 * i+1) i by have:=h5;simp only [D6X] at this;exact this)),he,hfr⟩
    ·conv=>whnf
     refine J6 hqs hq0 ?_
     refine tail (2 * i+1) (by omega) (by omega) ((kid _ (by omega)).2 (.inl rfl)) hbest _ (fun v st'' l'' hv hp' hk' he' hfr' hpr hs'=>?_) (by have:=h5;simp only [D7q] at this;exact this)
     subst hv;conv=>whnf
     refine G2 ?_
     exact ⟨l.length - (2 * i+1),by omega,2 * i+1,l'',hp',hk',he',hfr',hs',by omega,rfl,rfl⟩
  ·have hbest:∀ c,0<c→c<m→Z9 c=i→Nah l' c (2 * i+1):=fun c hc0 hcm hpc=>by
    rcases (kid c hc0).1 hpc with e | e
    ·subst e;exact A3c _
    ·omega
   conv=>whnf
   refine J6 hqs hq0 ?_
   refine I2 (B1y b l' n (2 * i+1) i _ he (by omega) (by omega) (by omega)) ?_
   refine B9 (fun h5=>?_) (fun h5=>?_)<;>rw [h5]
   ·conv=>whnf
    exact ⟨⟨_,rfl⟩,l',hp,hk,hs.done (fun c hc0 hcm hpc=>A0D (hbest c hc0 hcm hpc) (show Nah l' (2 * i+1) i by have:=h5;simp only [D6X] at this;exact this)),he,hfr⟩
   ·conv=>whnf
    refine J6 hqs hq0 ?_
    refine tail (2 * i+1) (by omega) (by omega) ((kid _ (by omega)).2 (.inl rfl)) hbest _ (fun v st'' l'' hv hp' hk' he' hfr' hpr hs'=>?_) (by have:=h5;simp only [D7q] at this;exact this)
    subst hv;conv=>whnf
    refine G2 ?_
    exact ⟨l.length - (2 * i+1),by omega,2 * i+1,l'',hp',hk',he',hfr',hs',by omega,rfl,rfl⟩
theorem A3l.frame {st st':St} {b c:Nat} {l:List QE} (h:A3l st b l) (hc:c≠b) (hf:∀ a,a≠c→st' a=st a):A3l st' b l:=by
 obtain ⟨f,h1,h2⟩:=h
 exact ⟨f,by rw [hf b (fun e=>hc e.symm)];exact h1,h2⟩
theorem C8I (q b:Nat) (l:List QE) (n:Nat) (st:St) (hq:A4O st q (.own 2 b 0 (n+1))) (hqb:q≠b) (he:A3l st b l) (hn:n<l.length) (hl:l.length<2305843009213693952) :
  S P 364 [.optr 1 q 0 0] st fun v st'=>v=.iface 320 (A5Z (at_ l n))∧A4O st' q (.own 2 b 0 n)∧∀ c,c≠q→st' c=st c:=by
 obtain ⟨fq,hqs,hq0⟩:=hq
 obtain ⟨f,hst,hf⟩:=he
 refine F4 [4] Tryz.func364 ?_
 refine J6 hqs hq0 ?_
 have w:IntKind.i64.wrap (((n+1:Nat):Int) - 1)=(n:Int):=by rw [A5 (by omega) (by omega)];omega
 rw [w]
 refine J6 hqs hq0 ?_
 refine E7 ?_
 refine ldV hst rfl (by omega) (v:=A5Z (at_ l n)) (by rw [show 0+(n:Int).toNat=n by omega];exact hf n hn) ?_;conv=>whnf
 refine J6 hqs hq0 ?_
 refine ⟨rfl,⟨by omega,by omega,by omega⟩,.inl rfl,?_⟩;conv=>whnf
 refine Z7 hqs hq0 ?_
 refine ⟨rfl,⟨_,A0 ..,?_⟩,fun c hc=>by rw [A9 hc]⟩
 rw [A4]
 show AV.agg [AV.own 2 b _ _]=_
 congr 3<;>simp
theorem C6j (q:Nat) (sv:AV) (l:List QE) (x:QE) (st st0:St) (hq:A4O st q sv) (h0:st0 q=none) (hsup:F1 st0 st) (hl:l.length<2305843009213)
  (hs:(l=[]∧sv=.emp)∨∃ b,q≠b∧st0 b=none∧sv=.own 2 b 0 l.length∧A3l st b l) :
  S P 365 [.optr 1 q 0 0,.iface 320 (A5Z x)] st fun v st'=>v=.tuple []∧∃ b,q≠b∧st0 b=none∧A4O st' q (.own 2 b 0 (l.length+1))∧A3l st' b (l++[x])∧F1 st0 st':=by
 obtain ⟨fq,hqs,hq0⟩:=hq
 refine F4 [] Tryz.func365 ?_
 intro c hc
 have hcq:q≠c:=fun e=>by subst e;rw [hqs] at hc;cases hc
 conv=>whnf
 refine Z7 (A0 ..) rfl ?_
 refine ⟨[6,8],[],[0,1,2,3,4,5,6,7,8],by kernel_rfl,?_⟩;conv=>whnf
 refine J6 (by rw [A9 hcq,A9 hcq];exact hqs) hq0 ?_
 have hc0:st0 c=none:=hsup.none hc
 rcases hs with ⟨rfl,rfl⟩ | ⟨b,hqb,hb0,rfl,f,hst,hf⟩
 ·conv=>whnf
  refine J6 (A0 ..) rfl ?_
  refine ⟨_,⟨rfl,rfl⟩,?_⟩;conv=>whnf
  refine apE rfl rfl rfl rfl (A3F ..) (by show 1 * 16≤_;omega) (fun h=>absurd h (by omega)) (fun _ b hb=>?_)
  have hbq:b≠q:=fun e=>by subst e;rw [A9 hcq,A9 hcq,hqs] at hb;cases hb
  have hbc:b≠c:=fun e=>by subst e;rw [A0] at hb;cases hb
  have hb':st b=none:=by rw [A9 hbc,A9 hbc] at hb;exact hb
  conv=>whnf
  refine Z7 (by rw [A9 hbq.symm,A9 hcq,A9 hcq];exact hqs) hq0 ?_
  refine ⟨rfl,b,hbq.symm,hsup.none hb',⟨_,A0 ..,by rw [A4];rfl⟩,⟨_,by rw [A9 hbq,A0];rfl,fun k hk=>?_⟩,?_⟩
  ·have:k=0:=by simpa using hk
   subst this;rfl
  ·exact (((hsup.over hc0).over hc0).over (hsup.none hb')).over h0
 ·have hbc:b≠c:=fun e=>by subst e;rw [hst] at hc;cases hc
  conv=>whnf
  refine J6 (A0 ..) rfl ?_
  refine ⟨_,⟨rfl,rfl⟩,?_⟩;conv=>whnf
  refine apO (q:=C9e) (n:=l.length) rfl rfl rfl rfl (A3F ..) (by rw [A9 hbc,A9 hbc];exact hst) rfl rfl rfl (by show (l.length+1) * 16≤_;omega) (fun h=>absurd h (by omega)) (fun _ b' hb'=>?_)
  have hb'q:b'≠q:=fun e=>by
   subst e
   rcases hb' with e | e
   ·exact hqb e
   ·rw [A9 hcq,A9 hcq,hqs] at e;cases e
  have hb'0:st0 b'=none:=by
   rcases hb' with rfl | e
   ·exact hb0
   ·by_cases hbc':b'=c
    ·subst hbc';exact hc0
    ·rw [A9 hbc',A9 hbc'] at e;exact hsup.none e
  conv=>whnf
  refine Z7 (by rw [A9 hb'q.symm];unfold del;rw [if_neg hqb,A9 hcq,A9 hcq];exact hqs) hq0 ?_
  refine ⟨rfl,b',hb'q.symm,hb'0,⟨_,A0 ..,by rw [A4];rfl⟩,⟨_,by rw [A9 hb'q,A0,D6P];rfl,fun k hk=>?_⟩,?_⟩
  ·rw [D6P] at hk
   simp only [D7o,D7X] at hk
   unfold at_
   by_cases hkl:k<l.length
   ·simp only [hkl,if_true]
    rw [hf k hkl,D6D,D7b hkl,←D6D]
   ·have:k=l.length:=by omega
    subst this
    simp only [Nat.lt_irrefl,D9l,Nat.sub_self]
    rw [show (l++[x]).getD l.length default=x by simp [D6D]]
    rfl
  ·exact ((((hsup.over hc0).over hc0).del hb0).over hb'0).over h0
theorem C6v (q:Nat) (sv:AV) (l:List QE) (x:QE) (st st0:St) (hq:A4O st q sv) (h0:st0 q=none) (hsup:F1 st0 st) (hl:l.length<2305843009213) (hh:A5Q l l.length)
  (hs:(l=[]∧sv=.emp)∨∃ b,q≠b∧st0 b=none∧sv=.own 2 b 0 l.length∧A3l st b l) :
  S P 266 [hI q,.iface 320 (A5Z x)] st fun v st'=>v=.tuple []∧∃ b l',q≠b∧st0 b=none∧l'.Perm (l++[x])∧A5Q l' l'.length∧A4O st' q (.own 2 b 0 l'.length)∧A3l st' b l'∧F1 st0 st':=by
 refine F4 [] Tryz.func266 ?_
 refine call (C6j q sv l x st st0 hq h0 hsup hl hs) (fun v st' hv=>?_)
 obtain ⟨rfl,b,hqb,hb0,⟨fq,hqs,hq0⟩,he,hsup'⟩:=hv
 conv=>whnf
 refine J6 hqs hq0 ?_
 refine I2 (len_S b (l.length+1) _) ?_
 have w:IntKind.i64.wrap (((l.length+1:Nat):Int) - 1)=(l.length:Int):=by rw [A5 (by omega) (by omega)];omega
 rw [w]
 have e1:(l++[x]).length=l.length+1:=by simp
 have hr:Ab.Rise (l++[x]) (l++[x]).length l.length:=by rw [e1];exact hh.up x rfl
 refine call (C9T q b (l++[x]) l.length _ (by rw [e1];exact ⟨fq,hqs,hq0⟩) hqb he hr (by omega) (by omega)) (fun v st'' hv=>?_)
 obtain ⟨rfl,l',hp,hh',he',hfr⟩:=hv
 conv=>whnf
 have el:l'.length=(l++[x]).length:=hp.length_eq
 refine ⟨rfl,b,l',hqb,hb0,hp,by rw [el];exact hh',?_,he',fun c y hc=>?_⟩
 ·rw [el,e1];exact A4O.frame ⟨fq,hqs,hq0⟩ hqb hfr
 ·rw [hfr c (fun e=>by subst e;rw [hb0] at hc;cases hc)];exact hsup' c y hc
theorem C2y {l l':List QE} {m:Nat} (hm:m<l.length) (hp:l'.Perm l) (hk:∀ k,m≤k→at_ l' k=at_ (swp l 0 m) k):(at_ l 0::l'.take m).Perm (l.take (m+1)):=by
 have hlen:l'.length=l.length:=hp.length_eq
 have e1:l'.drop m=at_ l 0::l.drop (m+1):=by
  refine List.ext_getElem? fun i=>?_
  rw [D8o]
  have hi:=hk (m+i) (by omega)
  rw [A7Y (by omega) hm] at hi
  rcases D8k (m+i) l.length with h | h
  ·have a1:l'[m+i]?=some (at_ l' (m+i)):=by
    unfold at_;rw [D6D,D6K (by omega)];rfl
   rw [a1,hi]
   cases i with
   | zero=>simp
   | succ i =>
    rw [if_neg (by omega),if_neg (by omega),D9n,D8o]
    unfold at_
    rw [D6D,show m+(i+1)=m+1+i by omega,D6K (by omega)];rfl
  ·rw [D9f (by omega)]
   cases i with
   | zero=>omega
   | succ i=>rw [D9n,D8o,D9f (by omega)]
 have h1:(l'.take m++(at_ l 0::l.drop (m+1))).Perm (l.take (m+1)++l.drop (m+1)):=by
  rw [←e1,D8U,D8U];exact hp
 have h2:((at_ l 0::l'.take m)++l.drop (m+1)).Perm (l.take (m+1)++l.drop (m+1)):=by
  refine List.Perm.trans ?_ h1
  exact List.perm_middle.symm
 exact (List.perm_append_right_iff _).1 h2
theorem C8N (q b:Nat) (l:List QE) (n:Nat) (st:St) (hq:A4O st q (.own 2 b 0 (n+1))) (hqb:q≠b) (he:A3l st b l) (hh:A5Q l (n+1)) (hn:n<l.length) (hl:l.length<2305843009213693952) :
  S P 267 [hI q] st fun v st'=>v=.iface 320 (A5Z (at_ l 0))∧∃ l',l'.length=l.length∧(at_ l 0::l'.take n).Perm (l.take (n+1))∧A5Q l' n∧A4O st' q (.own 2 b 0 n)∧A3l st' b l'∧∀ c,c≠q→c≠b→st' c=st c:=by
 obtain ⟨fq,hqs,hq0⟩:=hq
 refine F4 [] Tryz.func267 ?_
 refine J6 hqs hq0 ?_
 refine I2 (len_S b (n+1) _) ?_
 have w:IntKind.i64.wrap (((n+1:Nat):Int) - 1)=(n:Int):=by rw [A5 (by omega) (by omega)];omega
 rw [w]
 refine J6 hqs hq0 ?_
 refine call (B9k b l (n+1) 0 n _ he (by omega) (by omega) (by omega)) (fun v st1 hv=>?_)
 obtain ⟨rfl,he1,hfr1⟩:=hv
 have hq1:A4O st1 q (.own 2 b 0 (n+1)):=A4O.frame ⟨fq,hqs,hq0⟩ hqb hfr1
 have hd:Ab.Sink (swp l 0 n) n 0:=hh.down hn
 have hsl:(swp l 0 n).length=l.length:=B5z l 0 n
 conv=>whnf
 refine call (C6u q b (swp l 0 n) (n+1) n _ hq1 hqb he1 hd (by omega) (by omega) (by omega)) (fun v st2 hv=>?_)
 obtain ⟨⟨y,rfl⟩,l',hp,hk,hh',he2,hfr2⟩:=hv
 have hl':l'.length=l.length:=hp.length_eq.trans hsl
 have hq2:A4O st2 q (.own 2 b 0 (n+1)):=hq1.frame hqb hfr2
 have htop:at_ l' n=at_ l 0:=by rw [hk n (D6M _),A7Y (by omega) hn,if_pos rfl]
 conv=>whnf
 refine call (C8I q b l' n _ hq2 hqb he2 (by omega) (by omega)) (fun v st3 hv=>?_)
 obtain ⟨rfl,hq3,hfr3⟩:=hv
 rw [htop];conv=>whnf
 refine ⟨rfl,l',hl',C2y hn (hp.trans (B2F (by omega) hn)) hk,hh',hq3,he2.frame hqb hfr3,fun c h1 h2=>by rw [hfr3 c h1,hfr2 c h2,hfr1 c h2]⟩
structure QSt (st0:St) (q:Nat) (fresh:Bool) (es:List QE) (st:St):Prop where
 new:st0 q=none
 sup:F1 st0 st
 has:∃ sv,A4O st q sv∧((es=[]∧sv=.emp)∨∃ b l n,q≠b∧st0 b=none∧sv=.own 2 b 0 n∧n≤l.length∧l.length<2305843009213∧A5Q l n∧A3l st b l∧(l.take n).Perm es∧(fresh=true→n=l.length))
theorem QSt.perm {st0 st:St} {q:Nat} {f:Bool} {es es':List QE} (h:QSt st0 q f es st) (hp:es.Perm es'):QSt st0 q f es' st:=by
 obtain ⟨h1,h2,sv,hq,h3⟩:=h
 refine ⟨h1,h2,sv,hq,?_⟩
 rcases h3 with ⟨rfl,hs⟩ | ⟨b,l,n,a1,a2,a3,a4,a5,a6,a7,a8,a9⟩
 ·exact .inl ⟨List.Perm.eq_nil hp.symm,hs⟩
 ·exact .inr ⟨b,l,n,a1,a2,a3,a4,a5,a6,a7,a8.trans hp,a9⟩
theorem B2e (st:St):S P 226 [] st fun v st'=>∃ q,v=.optr 1 q 0 0∧QSt st q true [] st':=by
 refine F4 [] Tryz.func226 ?_
 intro q hq;conv=>whnf
 exact ⟨q,rfl,hq,(F1.refl st).upd hq,.emp,⟨_,A0 ..,rfl⟩,.inl ⟨rfl,rfl⟩⟩
theorem A8O (st0:St) (q:Nat) (es:List QE) (r k:Int) (st:St) (h:QSt st0 q true es st) (hl:es.length<2305843009212):S P 228 [.optr 1 q 0 0,eI r,eI k] st fun v st'=>v=.tuple []∧QSt st0 q true (es++[(r,k)]) st':=by
 obtain ⟨h1,h2,sv,hq,h3⟩:=h
 refine F4 [] Tryz.func228 ?_
 have hex:∃ l:List QE,l.Perm es∧A5Q l l.length∧((l=[]∧sv=.emp)∨∃ b,q≠b∧st0 b=none∧sv=.own 2 b 0 l.length∧A3l st b l):=by
  rcases h3 with ⟨rfl,hs⟩ | ⟨b,l,n,a1,a2,a3,a4,a5,a6,a7,a8,a9⟩
  ·exact ⟨[],List.Perm.refl _,fun c h0 hc=>absurd hc (by simp),.inl ⟨rfl,hs⟩⟩
  ·have e:=a9 rfl
   subst e
   rw [D6O] at a8
   exact ⟨l,a8,a6,.inr ⟨b,a1,a2,a3,a7⟩⟩
 obtain ⟨l,hp,hh,hs⟩:=hex
 have hll:l.length=es.length:=hp.length_eq
 refine call (C6v q sv l (r,k) st st0 hq h1 h2 (by omega) hh hs) (fun v st' hv=>?_)
 obtain ⟨rfl,b,l',hqb,hb0,hp',hh',hq',he',hsup'⟩:=hv
 have hl':l'.length=l.length+1:=by rw [hp'.length_eq];simp
 conv=>whnf
 exact ⟨rfl,h1,hsup',_,hq',.inr ⟨b,l',l'.length,hqb,hb0,rfl,D6M _,by omega,hh',he',by rw [D6O];exact hp'.trans (hp.append_right _),fun _=>rfl⟩⟩
theorem A9J (st0:St) (q:Nat) (f:Bool) (es:List QE) (st:St) (h:QSt st0 q f es st):S P 229 [.optr 1 q 0 0] st fun v st'=>v=eI es.length∧st'=st:=by
 obtain ⟨h1,h2,sv,⟨fq,hqs,hq0⟩,h3⟩:=h
 refine F4 [] Tryz.func229 ?_
 rcases h3 with ⟨rfl,rfl⟩ | ⟨b,l,n,a1,a2,rfl,a4,a5,a6,a7,a8,a9⟩
 ·refine J6 hqs hq0 ?_
  exact ⟨rfl,rfl⟩
 ·refine J6 hqs hq0 ?_
  refine ⟨?_,rfl⟩
  have:es.length=n:=by rw [←a8.length_eq,D6N];omega
  rw [this];rfl
theorem C6V (st0:St) (q:Nat) (f:Bool) (st:St) (h:QSt st0 q f [] st):S P 230 [.optr 1 q 0 0] st fun v st'=>v=.tuple [eI 0,eI 0,.bool false]∧st'=st:=by
 obtain ⟨h1,h2,sv,⟨fq,hqs,hq0⟩,h3⟩:=h
 refine F4 [] Tryz.func230 ?_
 rcases h3 with ⟨_,rfl⟩ | ⟨b,l,n,a1,a2,rfl,a4,a5,a6,a7,a8,a9⟩
 ·refine J6 hqs hq0 ?_
  exact ⟨rfl,rfl⟩
 ·have e:n=0:=by
   have:=a8.length_eq
   rw [D6N,D7X] at this;omega
  subst e
  refine J6 hqs hq0 ?_
  exact ⟨rfl,rfl⟩
theorem A9K (st0:St) (q:Nat) (f:Bool) (x:QE) (es:List QE) (st:St) (h:QSt st0 q f (x::es) st) (htop:∀ y∈es,G6 y x=false):S P 230 [.optr 1 q 0 0] st fun v st'=>v=.tuple [eI x.1,eI x.2,.bool true]∧QSt st0 q false es st':=by
 obtain ⟨h1,h2,sv,hq,h3⟩:=h
 rcases h3 with ⟨h,_⟩ | ⟨b,l,n,a1,a2,rfl,a4,a5,a6,a7,a8,a9⟩
 ·cases h
 have hn:n=es.length+1:=by
  have:=a8.length_eq
  rw [D6N,D7o] at this;omega
 subst hn
 have hx:at_ l 0=x:=by
  have m0:at_ l 0∈x::es:=by
   refine a8.subset ?_
   have:(l.take (es.length+1)).getD 0 default=at_ l 0:=by
    unfold at_;rw [D6D,D6D,D6S (by omega)]
   rw [←this];exact A7 (by rw [D6N];omega)
  have hmem:x∈l.take (es.length+1):=a8.symm.subset (D7f ..)
  obtain ⟨k,hk,he⟩:=D5 hmem
  rw [D6N] at hk
  have hxk:x=at_ l k:=by
   rw [he];unfold at_;rw [D6D,D6D,D6S (by omega)]
  have t1:G6 x (at_ l 0)=false:=by rw [hxk];exact a6.top k (by omega)
  rcases D8f.1 m0 with e | e
  ·exact e
  ·exact A4B (htop _ e) t1
 have hq':=hq
 obtain ⟨fq,hqs,hq0⟩:=hq
 refine F4 [] Tryz.func230 ?_
 refine J6 hqs hq0 ?_
 refine call (C8N q b l es.length st hq' a1 a7 a6 (by omega) (by omega)) (fun v st' hv=>?_)
 obtain ⟨rfl,l',hl',hp',hh',hq3,he3,hfr⟩:=hv
 rw [hx] at hp' ⊢
 have hsup':F1 st0 st':=fun c y hc=>by
  rw [hfr c (fun e=>by subst e;rw [h1] at hc;cases hc) (fun e=>by subst e;rw [a2] at hc;cases hc)];exact h2 c y hc
 conv=>whnf
 intro c hc;conv=>whnf
 refine Z7 (A0 ..) rfl ?_
 refine ⟨[],[],[0,1,2,3,4,5,6],by kernel_rfl,?_⟩;conv=>whnf
 refine J6 (A0 ..) rfl ?_
 refine J6 (A0 ..) rfl ?_
 obtain ⟨fq',hqs',hq0'⟩:=hq3
 obtain ⟨fe,hes,hef⟩:=he3
 have hcq:q≠c:=fun e=>by subst e;rw [hqs'] at hc;cases hc
 have hcb:b≠c:=fun e=>by subst e;rw [hes] at hc;cases hc
 have hc0:st0 c=none:=hsup'.none hc
 refine ⟨rfl,h1,(hsup'.over hc0).over hc0,_,⟨fq',by rw [A9 hcq,A9 hcq];exact hqs',hq0'⟩,.inr ⟨b,l',es.length,a1,a2,rfl,by omega,by omega,hh',⟨fe,by rw [A9 hcb,A9 hcb];exact hes,hef⟩,?_,fun e=>by cases e⟩⟩
 exact (List.perm_cons x).1 (hp'.trans a8)
end Go.Proofs.YtaapofnkmpiknaaGreat
