/- Part 20 of the proof: contracts -/
import Derived.Test.YtaapofnkmpiknaaGreatPt19
set_option maxRecDepth 100000
set_option linter.unusedVariables false
set_option linter.unusedSimpArgs false
namespace Go.Proofs.YtaapofnkmpiknaaGreat
open Go Go.Ab
attribute [local irreducible] upd del
def A4E (x:Ab.Item):Bool:=!(!C6 x.sku||!C6 x.cat||decide (x.price<0)||decide (x.price>1000000000))
def A1W (l:List Ab.Item):Bool:=!decide ((l.length:Int)>500)&&(M0 l (fun _ x=>A4E x)&&A0H (l.map Ab.Item.sku))
theorem C7b (l:List Ab.Item) (st:St):S P 144 [A8 4 F2 l] st fun v st'=>v=.bool (A1W l)∧st'=st:=by
 refine A0g ?_
 refine F7 [5] Tryz.func144 ?_
 refine B7 (fun h=>?_) (fun h=>?_)<;>rw [h]
 ·conv=>whnf
  refine ⟨?_,F8.refl _⟩
  rw [show A1W l=false by unfold A1W;rw [h];rfl];rfl
 have hs:l.length≤500:=by simp only [D7e] at h;omega
 have ht:A1W l=(M0 l (fun _ x=>A4E x)&&A0H (l.map Ab.Item.sku)):=by unfold A1W;rw [h,D7K,D7u]
 conv=>whnf
 refine ⟨[3,9,10,11],fun m vs st'=>∃ (i:Nat) (sv:AV),i≤l.length∧(∀ k,k<i→(fun (_:Nat) (x:Ab.Item)=>A4E x) k (l.getD k default)=true)∧m=l.length - i∧vs=[sv,A8 4 F2 l,eI l.length,eI i]∧Col 9 1 (fun k=>eS (Ab.Item.sku (l.getD k default))) st i sv st',?_,?_⟩
 ·conv=>whnf
  exact ⟨_,0,.emp,D7C _,fun k hk=>absurd hk (by omega),rfl,rfl,Col.start _ _ _ _⟩
 ·rintro m vs st' ⟨i,sv,hi,hok,rfl,rfl,hc⟩
  conv=>whnf
  cases h:decide ((i:Int)<(l.length:Int))
  ·have:=D7g h
   obtain rfl:i=l.length:=by omega
   conv=>whnf
   refine E2 (hc.shift.trans (B5g Ab.Item.sku l st)) (B2 (B2J (l.map Ab.Item.sku) (by rw [D7i];omega) st) ?_);conv=>whnf
   refine ⟨?_,F8.refl _⟩
   rw [ht,L3 fun k hk=>hok k (by omega),D7u];rfl
  ·have hi':i<l.length:=by have:=D7h h;omega
   conv=>whnf
   refine ⟨rfl,⟨by omega,by omega⟩,?_⟩
   have yes:(fun (_:Nat) (x:Ab.Item)=>A4E x) i (l.getD (i:Int).toNat default)=true→∀ k,k<i+1→(fun (_:Nat) (x:Ab.Item)=>A4E x) k (l.getD k default)=true:=fun h=>G9 hok h
   have no:(fun (_:Nat) (x:Ab.Item)=>A4E x) i (l.getD (i:Int).toNat default)=false→A1W l=false:=fun h=>by rw [ht,Y0 hi' h,D7z]
   have hmem:l.getD (i:Int).toNat default∈l:=by
    rw [D7q,D7c,D7k hi'];exact D8y hi'
   have hsup:=hc.sup
   simp only [A4E] at yes no
   repeat' ((conv=>whnf);first | refine B2 (A4k _ _) ?_ | (refine B7 (fun h=>?_) (fun h=>?_)<;>rw [h]))
   all_goals (conv=>whnf)
   all_goals first
    | (refine ⟨?_,hsup⟩;rw [no (by first | (simp only [*,D7u,Bool.and_self,D7U,D7X,D7S];done) | simpa using h)];rfl)
    | skip
   refine Col.app rfl rfl rfl rfl rfl ?_ (by show (i+1) * 16≤140737488355328;omega) hc (fun sv' st'' hc'=>?_)
   ·rfl
   conv=>whnf
   refine G3 ?_
   exact ⟨l.length - (i+1),by omega,i+1,sv',by omega,yes (by first | (simp only [*,D7z,D7H,D7V,D7K];done) | simpa using h),rfl,by rw [B4 (by omega)],hc'⟩
def A4L (x:H4):Bool:=!(!C6 x.cat||!J8 0 10000 x.rate)
def Z8 (z:K9):Bool:=!(!C6 z.name||!J8 0 10000 z.rest||!J8 0 10000 z.ship||decide ((z.rates.length:Int)>40))&&(M0 z.rates (fun _ x=>A4L x)&&A0H (z.rates.map H4.cat))
theorem D0B (z:K9) (st:St):S P 199 [S9 z] st fun v st'=>v=.bool (Z8 z)∧st'=st:=by
 refine A0g ?_
 refine SyW [1,5] Tryz.func199 ?_
 repeat' ((conv=>whnf);first | refine B2 (A4k _ _) ?_ | refine B2 (B5E _ _) ?_ | (refine B7 (fun h=>?_) (fun h=>?_)<;>rw [h]))
 all_goals (conv=>whnf)
 all_goals first
  | (refine ⟨?_,F8.refl _⟩
     rw [show Z8 z=false by unfold Z8;simp only [*,D7X,D7U,D7S,D7z]]
     rfl)
  | skip
 have hs:z.rates.length≤40:=by simp only [D7e] at h;omega
 have ht:Z8 z=(M0 z.rates (fun _ x=>A4L x)&&A0H (z.rates.map H4.cat)):=by unfold Z8;simp only [*,D7V,D7K,D7u]
 refine ⟨[3,29,30,31],fun m vs st'=>∃ (i:Nat) (sv:AV),i≤z.rates.length∧(∀ k,k<i→(fun (_:Nat) (x:H4)=>A4L x) k (z.rates.getD k default)=true)∧m=z.rates.length - i∧vs=[sv,A8 2 A1i z.rates,eI z.rates.length,eI i]∧Col 9 1 (fun k=>eS (H4.cat (z.rates.getD k default))) st i sv st',?_,?_⟩
 ·conv=>whnf
  exact ⟨_,0,.emp,D7C _,fun k hk=>absurd hk (by omega),rfl,rfl,Col.start _ _ _ _⟩
 ·rintro m vs st' ⟨i,sv,hi,hok,rfl,rfl,hc⟩
  conv=>whnf
  cases h:decide ((i:Int)<(z.rates.length:Int))
  ·have:=D7g h
   obtain rfl:i=z.rates.length:=by omega
   conv=>whnf
   refine E2 (hc.shift.trans (B5g H4.cat z.rates st)) (B2 (B2J (z.rates.map H4.cat) (by rw [D7i];omega) st) ?_);conv=>whnf
   refine ⟨?_,F8.refl _⟩
   rw [ht,L3 fun k hk=>hok k (by omega),D7u];rfl
  ·have hi':i<z.rates.length:=by have:=D7h h;omega
   conv=>whnf
   refine ⟨rfl,⟨by omega,by omega⟩,?_⟩
   have yes:(fun (_:Nat) (x:H4)=>A4L x) i (z.rates.getD (i:Int).toNat default)=true→∀ k,k<i+1→(fun (_:Nat) (x:H4)=>A4L x) k (z.rates.getD k default)=true:=fun h=>G9 hok h
   have no:(fun (_:Nat) (x:H4)=>A4L x) i (z.rates.getD (i:Int).toNat default)=false→Z8 z=false:=fun h=>by rw [ht,Y0 hi' h,D7z]
   have hmem:z.rates.getD (i:Int).toNat default∈z.rates:=by
    rw [D7q,D7c,D7k hi'];exact D8y hi'
   have hsup:=hc.sup
   simp only [A4L] at yes no
   repeat' ((conv=>whnf);first | refine B2 (A4k _ _) ?_ | refine B2 (B5E _ _) ?_ | (refine B7 (fun h=>?_) (fun h=>?_)<;>rw [h]))
   all_goals (conv=>whnf)
   all_goals first
    | (refine ⟨?_,hsup⟩;rw [no (by first | (simp only [*,D7u,Bool.and_self,D7U,D7X,D7S];done) | simpa using h)];rfl)
    | skip
   refine Col.app rfl rfl rfl rfl rfl ?_ (by show (i+1) * 16≤140737488355328;omega) hc (fun sv' st'' hc'=>?_)
   ·rfl
   conv=>whnf
   refine G3 ?_
   exact ⟨z.rates.length - (i+1),by omega,i+1,sv',by omega,yes (by first | (simp only [*,D7z,D7H,D7V,D7K];done) | simpa using h),rfl,by rw [B4 (by omega)],hc'⟩
def taxC (x:Tax):Bool:=!(decide (x.round<0)||decide (x.round>2)||decide ((x.zones.length:Int)>20))&&(M0 x.zones (fun _ z=>Z8 z)&&A0H (x.zones.map K9.name))
theorem C8G (x:Tax) (st:St):S P 146 [T7 x] st fun v st'=>v=.bool (taxC x)∧st'=st:=by
 refine A0g ?_
 refine SyW [1,5] Tryz.func146 ?_
 repeat' ((conv=>whnf);first  | (refine B7 (fun h=>?_) (fun h=>?_)<;>rw [h]))
 all_goals (conv=>whnf)
 all_goals first
  | (refine ⟨?_,F8.refl _⟩
     rw [show taxC x=false by unfold taxC;simp only [*,D7X,D7U,D7S,D7z]]
     rfl)
  | skip
 have hs:x.zones.length≤20:=by simp only [D7e] at h;omega
 have ht:taxC x=(M0 x.zones (fun _ z=>Z8 z)&&A0H (x.zones.map K9.name)):=by unfold taxC;simp only [*,D7V,D7K,D7u]
 refine ⟨[3,21,22,23],fun m vs st'=>∃ (i:Nat) (sv:AV),i≤x.zones.length∧(∀ k,k<i→(fun (_:Nat) (z:K9)=>Z8 z) k (x.zones.getD k default)=true)∧m=x.zones.length - i∧vs=[sv,A8 4 S9 x.zones,eI x.zones.length,eI i]∧Col 9 1 (fun k=>eS (K9.name (x.zones.getD k default))) st i sv st',?_,?_⟩
 ·conv=>whnf
  exact ⟨_,0,.emp,D7C _,fun k hk=>absurd hk (by omega),rfl,rfl,Col.start _ _ _ _⟩
 ·rintro m vs st' ⟨i,sv,hi,hok,rfl,rfl,hc⟩
  conv=>whnf
  cases h:decide ((i:Int)<(x.zones.length:Int))
  ·have:=D7g h
   obtain rfl:i=x.zones.length:=by omega
   conv=>whnf
   refine E2 (hc.shift.trans (B5g K9.name x.zones st)) (B2 (B2J (x.zones.map K9.name) (by rw [D7i];omega) st) ?_);conv=>whnf
   refine ⟨?_,F8.refl _⟩
   rw [ht,L3 fun k hk=>hok k (by omega),D7u];rfl
  ·have hi':i<x.zones.length:=by have:=D7h h;omega
   conv=>whnf
   refine ⟨rfl,⟨by omega,by omega⟩,?_⟩
   have yes:(fun (_:Nat) (z:K9)=>Z8 z) i (x.zones.getD (i:Int).toNat default)=true→∀ k,k<i+1→(fun (_:Nat) (z:K9)=>Z8 z) k (x.zones.getD k default)=true:=fun h=>G9 hok h
   have no:(fun (_:Nat) (z:K9)=>Z8 z) i (x.zones.getD (i:Int).toNat default)=false→taxC x=false:=fun h=>by rw [ht,Y0 hi' h,D7z]
   have hmem:x.zones.getD (i:Int).toNat default∈x.zones:=by
    rw [D7q,D7c,D7k hi'];exact D8y hi'
   have hsup:=hc.sup
   simp only [not_true] at yes no
   conv=>whnf
   refine I3 (D0B (x.zones.getD (i:Int).toNat default) _) ?_
   refine B7 (fun h=>?_) (fun h=>?_)<;>rw [h]
   all_goals (conv=>whnf)
   all_goals first
    | (refine ⟨?_,hsup⟩;rw [no (by first | (simp only [*,D7u,Bool.and_self,D7U,D7X,D7S];done) | simpa using h)];rfl)
    | skip
   refine Col.app rfl rfl rfl rfl rfl ?_ (by show (i+1) * 16≤140737488355328;omega) hc (fun sv' st'' hc'=>?_)
   ·rfl
   conv=>whnf
   refine G3 ?_
   exact ⟨x.zones.length - (i+1),by omega,i+1,sv',by omega,yes (by first | (simp only [*,D7z,D7H,D7V,D7K];done) | simpa using h),rfl,by rw [B4 (by omega)],hc'⟩
def A2W (l:List Int) (i:Nat) (k:Int):Bool:=!(!J8 1 9 k||(l.take i).any fun y=>k==y)
def A1B (l:List Int):Bool:=M0 l (A2W l)
theorem C0u (l:List Int) (hl:l.length<9223372036854775807) (st:St):S P 201 [A9 l] st fun v st'=>v=.bool (A1B l)∧st'=st:=by
 refine F7 [] Tryz.func201 ?_
 refine ⟨[0,5,6,7],fun m vs st'=>∃ i:Nat,i≤l.length∧(∀ k,k<i→A2W l k (l.getD k default)=true)∧m=l.length - i∧vs=[A9 l,A9 l,eI l.length,eI i]∧st'=st,?_,?_⟩
 ·conv=>whnf
  exact ⟨_,0,D7C _,fun k hk=>absurd hk (by omega),rfl,rfl,rfl⟩
 ·rintro m vs st' ⟨i,hi,hok,rfl,rfl,rfl⟩
  conv=>whnf
  cases h:decide ((i:Int)<(l.length:Int))
  ·have:=D7g h
   conv=>whnf
   refine ⟨?_,rfl⟩
   rw [show A1B l=true from L3 fun k hk=>hok k (by omega)];rfl
  ·have hi':i<l.length:=by have:=D7h h;omega
   conv=>whnf
   refine ⟨rfl,⟨by omega,by omega⟩,?_⟩
   have yes:A2W l i (l.getD (i:Int).toNat default)=true→∀ k,k<i+1→A2W l k (l.getD k default)=true:=fun h=>G9 hok h
   have no:A2W l i (l.getD (i:Int).toNat default)=false→A1B l=false:=fun h=>Y0 hi' h
   unfold A2W at yes no;conv=>whnf
   refine I3 (C4n _ _) ?_
   refine B7 (fun h1=>?_) (fun h1=>?_)
   ·rw [h1];conv=>whnf
    refine ⟨?_,rfl⟩
    rw [no (by rw [h1];rfl)];rfl
   ·rw [h1];conv=>whnf
    refine ⟨rfl,⟨by omega,by omega,by omega⟩,?_⟩;conv=>whnf
    refine E2 (A7.cons (B2P 1 eI l i _ _ hi (by omega) (fun k hk=>by simp) _) (A7.keep _ _)) (B2 (C4j (l.take i) (by rw [D7n];omega) _ _) ?_);conv=>whnf
    refine B7 (fun h2=>?_) (fun h2=>?_)
    ·rw [h2];conv=>whnf
     refine ⟨?_,rfl⟩
     rw [no (by rw [h2,D7U,D7S])];rfl
    ·rw [h2];conv=>whnf
     refine G3 ?_
     exact ⟨l.length - (i+1),by omega,i+1,by omega,yes (by rw [h1,h2];rfl),rfl,by rw [B4 (by omega)],rfl⟩
def A2D (p:A7I):Bool:=J8 0 100000 p.window&&J8 0 100000 p.grace&&decide (p.mode≥1)&&decide (p.mode≤3)&&J8 0 10000 p.restock&&A1B p.order&&A1B p.credit
structure X9 (r:E0):Prop where
 promos:r.promos.length≤Big
 fit:∀ p∈r.promos,R5 p
 order:r.policy.order.length<9223372036854775807
 credit:r.policy.credit.length<9223372036854775807
theorem C4T (p:A7I) (h1:p.order.length<9223372036854775807) (h2:p.credit.length<9223372036854775807) (st:St):S P 148 [C6J p] st fun v st'=>v=.bool (A2D p)∧st'=st:=by
 refine SyW [1] Tryz.func148 ?_
 repeat' ((conv=>whnf);first | refine B2 (C3S _ st) ?_ | refine B2 (B5E _ st) ?_ | refine B2 (C0u p.order h1 st) ?_ | refine B2 (C0u p.credit h2 st) ?_ | (refine B7 (fun h=>?_) (fun h=>?_)<;>rw [h]))
 all_goals (conv=>whnf)
 all_goals (refine ⟨?_,rfl⟩;show AV.bool _=AV.bool _;congr 1)
 all_goals (simp only [A2D, *,D7u,D7z,D7Q,D7H,D7U,D7V,D7X,D7R,D7S,D7K,D8v];try rfl)
def K1 (r:E0):Bool:=A1W r.items&&promosC r.promos&&taxC r.tax&&B0A r.ship&&A2D r.policy
theorem B5F (r:E0) (hf:X9 r) (st:St):S P 86 [F4 r] st fun v st'=>v=.bool (K1 r)∧st'=st:=by
 refine SyW [1] Tryz.func86 ?_
 repeat' ((conv=>whnf);first | refine B2 (C7b r.items st) ?_ | refine B2 (C4V r.promos hf.promos hf.fit st) ?_ | refine B2 (C8G r.tax st) ?_ | refine B2 (D0h r.ship st) ?_ | refine B2 (C4T r.policy hf.order hf.credit st) ?_ | (refine B7 (fun h=>?_) (fun h=>?_)<;>rw [h]))
 all_goals (conv=>whnf)
 all_goals (refine ⟨?_,rfl⟩;show AV.bool _=AV.bool _;congr 1)
 all_goals (simp only [K1, *,D7u,D7z,D7Q,D7H,D7U,D7V,D7X,D7R,D7S,D7K,D8v];try rfl)
end Go.Proofs.YtaapofnkmpiknaaGreat
namespace Go.Proofs.YtaapofnkmpiknaaGreat
open Go Go.Ab
theorem A3v:∀ x:List UInt8,Op.bytesLess x x=false
 | []=>rfl
 | a::x=>by simp [Op.bytesLess,A3v x,UInt8.lt_irrefl]
theorem B6o:∀ x y z:List UInt8,Op.bytesLess x y=true→Op.bytesLess y z=true→Op.bytesLess x z=true
 | _,_,[],_,h=>by simp [Op.bytesLess] at h
 | _,[],_::_,h,_=>by simp [Op.bytesLess] at h
 | [],_::_,_::_,_,_=>by simp [Op.bytesLess]
 | a::x,b::y,c::z,h1,h2=>by
  simp only [Op.bytesLess,D8g,D7f,D7d,D7Z] at *
  rcases h1 with h1 | ⟨rfl,h1⟩
  ·rcases h2 with h2 | ⟨rfl,h2⟩
   ·exact .inl (UInt8.lt_trans h1 h2)
   ·exact .inl h1
  ·rcases h2 with h2 | ⟨rfl,h2⟩
   ·exact .inl h2
   ·exact .inr ⟨rfl,B6o x y z h1 h2⟩
theorem C3J:∀ x y:List UInt8,Op.bytesLess x y=false→Op.bytesLess y x=false→x=y
 | [],[],_,_=>rfl
 | [],_::_,h,_=>by simp [Op.bytesLess] at h
 | _::_,[],_,h=>by simp [Op.bytesLess] at h
 | a::x,b::y,h1,h2=>by
  simp only [Op.bytesLess,D8n,D9k,D7e,D7P] at *
  have hab:a=b:=by
   have n1:=UInt8.not_lt.1 h1.1
   have n2:=UInt8.not_lt.1 h2.1
   exact UInt8.le_antisymm n2 n1
  subst hab
  rw [C3J x y (h1.2.resolve_left (by simp)) (h2.2.resolve_left (by simp))]
theorem A5C (a:C8):slt a a=false:=A3v _
theorem B4y {a b c:C8} (h1:slt a b=true) (h2:slt b c=true):slt a c=true:=B6o _ _ _ h1 h2
theorem A7m {a b:C8} (h1:slt a b=false) (h2:slt b a=false):a.toList=b.toList:=C3J _ _ h1 h2
theorem A7l {a b:C8} (h:slt a b=true):slt b a=false:=by
 cases hb:slt b a with
 | false=>rfl
 | true=>have:=B4y h hb;rw [A5C] at this;cases this
theorem A4Q {a b c:C8} (h1:slt b a=false) (h2:slt c b=false):slt c a=false:=by
 cases hca:slt c a with
 | false=>rfl
 | true =>
  cases hab:slt a b with
  | true=>have:=B4y hca hab;rw [this] at h2;cases h2
  | false =>
   have e:=A7m hab h1
   have:slt c b=true:=by unfold slt at *;rw [←e];exact hca
   rw [this] at h2;cases h2
theorem B4x {a a' b b':C8} (h1:a.toList=a'.toList) (h2:b.toList=b'.toList):slt a b=slt a' b':=by unfold slt;rw [h1,h2]
def A4R (l:List C8) (k:Nat):Bool:=k==0||!slt (l.getD k default) (l.getD (k - 1) default)
theorem B7N {l:List C8} (h:∀ k,k<l.length→A4R l k=true) {a b:Nat} (hab:a≤b) (hb:b<l.length):slt (l.getD b default) (l.getD a default)=false:=by
 induction b with
 | zero=>have:a=0:=by omega
         subst this;exact A5C _
 | succ b ih =>
  rcases D8E a (b+1) with hlt | hge
  ·have h1:=ih (by omega) (by omega)
   have h2:=h (b+1) hb
   simp only [A4R,Nat.add_one_ne_zero,D7Z,D8g,D7v,Nat.add_sub_cancel,false_or] at h2
   exact A4Q h1 h2
  ·have:a=b+1:=by omega
   subst this;exact A5C _
end Go.Proofs.YtaapofnkmpiknaaGreat
namespace Go.Proofs.YtaapofnkmpiknaaGreat
open Go Go.Ab
attribute [local irreducible] upd del
theorem C8A (a:C8) (st:St):S P 259 [eS a] st fun v st'=>v=.bool false∧st'=st:=by
 refine F7 [] Tryz.func259 ?_
 refine ⟨?_,rfl⟩
 show AV.bool (!(a.toList==a.toList))=_
 simp
def A9w (a b:C8):Int:=if slt a b=true then -1 else if slt b a=true then 1 else 0
theorem C0q (a b:C8):(!(Op.bytesLess a.toList b.toList||a.toList==b.toList))=slt b a:=by
 cases h1:Op.bytesLess a.toList b.toList with
 | true=>rw [A7l (a:=a) (b:=b) h1];rfl
 | false =>
  cases h2:slt b a with
  | true =>
   have hne:(a.toList==b.toList)=false:=by
    rw [D7P];intro e
    unfold slt at h2;rw [e,A3v] at h2;cases h2
   rw [hne];rfl
  | false=>rw [A7m (a:=a) (b:=b) h1 h2];simp
theorem C8o (a b:C8) (st:St):S P 222 [eS a,eS b] st fun v st'=>v=eI (A9w a b)∧st'=st:=by
 refine F7 [] Tryz.func222 ?_
 refine I3 (C8A _ _) ?_
 refine I3 (C8A _ _) ?_
 refine B7 (fun h=>?_) (fun h=>?_)<;>rw [h]
 ·conv=>whnf
  exact ⟨by rw [show A9w a b = -1 from if_pos h];rfl,rfl⟩
 ·have h0:¬ slt a b=true:=by rw [show slt a b=false from h];simp
  conv=>whnf
  refine B7 (fun h2=>?_) (fun h2=>?_)
  ·have h3:slt b a=true:=by rw [←C0q a b];exact h2
   rw [h2];conv=>whnf
   exact ⟨by rw [show A9w a b=1 by unfold A9w;rw [if_neg h0,if_pos h3]];rfl,rfl⟩
  ·have h3:¬ slt b a=true:=by rw [←C0q a b,D8h];exact h2
   rw [h2];conv=>whnf
   exact ⟨by rw [show A9w a b=0 by unfold A9w;rw [if_neg h0,if_neg h3]];rfl,rfl⟩
theorem B4R (a b:Ab.Item) (st:St):S P 174 [F2 a,F2 b] st fun v st'=>v=eI (A9w a.sku b.sku)∧st'=st:=by
 refine F7 [2,3] Tryz.func174 ?_
 refine I3 (C8o _ _ _) ?_
 exact ⟨rfl,rfl⟩
theorem B1D (a b:C8):decide (A9w a b<0)=slt a b:=by
 unfold A9w
 split
 ·rename_i h;rw [h];rfl
 ·rename_i h
  rw [D8h] at h
  rw [h];split<;>rfl
theorem C1r (a b:C8):(A9w a b==0)=(a.toList==b.toList):=by
 unfold A9w
 split
 ·rename_i h
  have:(a.toList==b.toList)=false:=by
   rw [D7P];intro e
   unfold slt at h;rw [e,A3v] at h;cases h
  rw [this];rfl
 ·split
  ·rename_i h1 h
   have:(a.toList==b.toList)=false:=by
    rw [D7P];intro e
    unfold slt at h;rw [e,A3v] at h;cases h
   rw [this];rfl
  ·rename_i h1 h2
   rw [D8h] at h1 h2
   rw [A7m h1 h2];simp
abbrev skus (l:List Ab.Item):List C8:=l.map Ab.Item.sku
theorem B5I (l:List Ab.Item) {k:Nat} (hk:k<l.length):(skus l).getD k default=(l.getD k default).sku:=D4 Ab.Item.sku l hk
def A9h (l:List C8):Bool:=(List.range l.length).all (A4R l)
theorem C5K (l:List Ab.Item) (hl:l.length≤9223372036854775807) (st:St):S P 173 [A8 4 F2 l,.fn (.func 174) [] []] st fun v st'=>v=.bool (A9h (skus l))∧st'=st:=by
 refine F7 [] Tryz.func173 ?_
 have hlen:(skus l).length=l.length:=D7i ..
 refine ⟨[0,1,5],fun m vs st'=>∃ i:Int,-1≤i∧i<l.length∧(∀ k:Nat,i<k→k<l.length→A4R (skus l) k=true)∧m=(i+1).toNat∧vs=[A8 4 F2 l,.fn (.func 174) [] [],eI i]∧st'=st,?_,?_⟩
 ·conv=>whnf
  have w:IntKind.i64.wrap ((l.length:Int) - 1)=(l.length:Int) - 1:=A4 (by omega) (by omega)
  exact ⟨_,(l.length:Int) - 1,by omega,by omega,fun k h1 h2=>by omega,rfl,by rw [w],rfl⟩
 ·rintro m vs st' ⟨i,h0,hi,hok,rfl,rfl,rfl⟩
  conv=>whnf
  cases h:decide (i>0)
  ·have:=D7g h
   conv=>whnf
   refine ⟨?_,rfl⟩
   rw [show A9h (skus l)=true from B1w fun k hk=>?_];rfl
   rw [hlen] at hk
   rcases D8w k with e | e
   ·subst e;rfl
   ·exact hok k (by omega) hk
  ·have hp:=D7h h
   have w:IntKind.i64.wrap (i - 1)=i - 1:=A4 (by omega) (by omega)
   conv=>whnf
   refine ⟨[],[],[0,1,2,3,4,5,6,7,8,9,10,11],by kernel_rfl,?_⟩;conv=>whnf
   refine E9 ?_
   rw [w]
   refine E9 ?_
   refine cqW (B4R (l.getD i.toNat default) (l.getD (i - 1).toNat default) _) ?_
   rw [B1D]
   have e:A4R (skus l) i.toNat=!slt (l.getD i.toNat default).sku (l.getD (i - 1).toNat default).sku:=by
    unfold A4R
    rw [D8Q (by omega),D7R,B5I l (by omega),B5I l (by omega),show i.toNat - 1=(i - 1).toNat by omega]
   refine B7 (fun h2=>?_) (fun h2=>?_)
   ·rw [h2] at e ⊢;conv=>whnf
    refine ⟨?_,rfl⟩
    rw [show A9h (skus l)=false from A4G (k:=i.toNat) (by omega) e];rfl
   ·rw [h2] at e ⊢;conv=>whnf
    refine G3 ?_
    exact ⟨i.toNat,by omega,i - 1,by omega,by omega,fun k h1 h2=>by
     rcases (by omega:k=i.toNat∨i<k) with e' | e'
     ·rw [e'];exact e
     ·exact hok k e' h2,by omega,by rw [w],rfl⟩
theorem C6M (s:C8) (x:Ab.Item) (st:St):S P 176 [F2 x,.fptr (eS s) 0] st fun v st'=>v=.bool (x.sku.toList==s.toList)∧st'=st:=by
 refine F7 [2] Tryz.func176 ?_
 exact ⟨rfl,rfl⟩
abbrev Q7 (l:List Ab.Item) (s:C8):Int:=idx (fun x=>x.sku.toList==s.toList) l
theorem C6V {i j:Int} (hi:0≤i) (hij:i<j) (hj:j≤9223372036854775807):IntKind.i64.wrap ((IntKind.u64.wrap (IntKind.i64.wrap (i+j))).fdiv (2 ^ (min (1:Int).toNat IntKind.u64.bits)))=(i+j) / 2:=by
 have w:IntKind.u64.wrap (IntKind.i64.wrap (i+j))=i+j:=by
  rw [IntKind.wrap_i64]
  show (_:Int) % 18446744073709551616=_
  omega
 rw [w]
 rw [show (min (1:Int).toNat IntKind.u64.bits)=1 from rfl,D9c _ (by decide)]
 rw [show ((2:Int) ^ 1)=2 from rfl,A4 (x:=(i+j) / 2) (by omega) (by omega)]
theorem C5v (l:List Ab.Item) (x:Ab.Item) (hl:l.length≤9223372036854775807) (hs:A9h (skus l)=true) (st:St) :
  S P 177 [A8 4 F2 l,F2 x,.fn (.func 174) [] []] st fun v st'=>(∃ (i:Nat) (b:Bool),v=.tuple [eI i,.bool b]∧(if b=true then Q7 l x.sku=i else Q7 l x.sku = -1))∧st'=st:=by
 refine F7 [4] Tryz.func177 ?_
 have hlen:(skus l).length=l.length:=D7i ..
 have hmono:∀ a b:Nat,a≤b→b<l.length→slt (l.getD b default).sku (l.getD a default).sku=false:=fun a b hab hb=>by
  have:=B7N (l:=skus l) (fun k hk=>D7s.1 hs k (D7t.2 hk)) hab (by omega)
  rwa [B5I l hb,B5I l (by omega)] at this
 refine ⟨[0,2,4,8,9,10],fun m vs st'=>∃ i j:Nat,i≤j∧j≤l.length∧(∀ k,k<i→slt (l.getD k default).sku x.sku=true)∧(∀ k,j≤k→k<l.length→slt (l.getD k default).sku x.sku=false)∧m=j - i ∧
  vs=[A8 4 F2 l,.fn (.func 174) [] [],.fptr (F2 x) 0,eI l.length,eI i,eI j]∧st'=st,?_,?_⟩
 ·conv=>whnf
  exact ⟨_,0,l.length,D7C _,D7l _,fun k hk=>absurd hk (by omega),fun k h1 h2=>absurd h1 (by omega),rfl,rfl,rfl⟩
 ·rintro m vs st' ⟨i,j,hij,hj,hlo,hhi,rfl,rfl,rfl⟩
  conv=>whnf
  cases h:decide ((i:Int)<(j:Int))
  ·have:=D7g h
   obtain rfl:i=j:=by omega
   conv=>whnf
   refine ⟨[],[],[0,1,2,3,4,5,6,7,8,9,10,11,12,13,14,15],by kernel_rfl,?_⟩;conv=>whnf
   have hne:∀ k,k<i→((l.getD k default).sku.toList==x.sku.toList)=false:=fun k hk=>by
    rw [D7P];intro e
    have:=hlo k hk
    unfold slt at this;rw [e,A3v] at this;cases this
   refine B7 (fun h1=>?_) (fun h1=>?_)<;>rw [h1]<;>simp only [D7d,D7e] at h1
   ·conv=>whnf
    refine E9 ?_
    refine cqW (B4R (l.getD (i:Int).toNat default) x _) ?_
    rw [C1r]
    refine ⟨⟨i,(l.getD (i:Int).toNat default).sku.toList==x.sku.toList,rfl,?_⟩,rfl⟩
    split
    ·rename_i he
     exact A1V (by omega) hne he
    ·rename_i he
     rw [D8h] at he
     have hlt:slt (l.getD i default).sku x.sku=false:=hhi i (D7l _) (by omega)
     refine U8 fun k hk=>?_
     rcases D8E k i with hki | hki
     ·exact hne k hki
     ·rw [D7P];intro e
      have h3:=hmono i k hki hk
      rw [D7P] at he
      refine he (A7m hlt ?_)
      rw [←B4x (a:=(l.getD k default).sku) e rfl];exact h3
   ·conv=>whnf
    refine ⟨⟨i,false,rfl,?_⟩,rfl⟩
    rw [if_neg (by simp)]
    exact U8 fun k hk=>hne k (by omega)
  ·have hlt:=D7h h
   conv=>whnf
   rw [C6V (i:=i) (j:=j) (by omega) (by omega) (by omega)]
   have eh:((i:Int)+(j:Int)) / 2=(((i+j) / 2:Nat):Int):=by omega
   rw [eh]
   generalize hh:(i+j) / 2=mid at *
   refine ⟨[],[],[0,1,2,3,4,5,6,7],by kernel_rfl,?_⟩;conv=>whnf
   refine E9 ?_
   refine cqW (B4R (l.getD (mid:Int).toNat default) x _) ?_
   rw [B1D]
   refine B7 (fun h1=>?_) (fun h1=>?_)
   ·have h1':slt (l.getD mid default).sku x.sku=true:=h1
    rw [h1];conv=>whnf
    refine G3 ?_
    refine ⟨j - (mid+1),by omega,mid+1,j,by omega,hj,fun k hk=>?_,hhi,rfl,by rw [B4 (by omega)],rfl⟩
    cases hk2:slt (l.getD k default).sku x.sku with
    | true=>rfl
    | false =>
     have h3:=hmono k mid (by omega) (by omega)
     have:=A4Q hk2 (show slt (l.getD mid default).sku (l.getD k default).sku=false from h3)
     rw [h1'] at this
     cases this
   ·have h1':slt (l.getD mid default).sku x.sku=false:=h1
    rw [h1];conv=>whnf
    refine G3 ?_
    refine ⟨mid - i,by omega,i,mid,by omega,by omega,hlo,fun k h2 h3=>?_,rfl,rfl,rfl⟩
    exact A4Q (b:=(l.getD mid default).sku) (by exact h1') (hmono mid k h2 h3)
theorem B8F (l:List Ab.Item) (s:C8) (hl:l.length≤9223372036854775807) (st:St):S P 121 [A8 4 F2 l,eS s] st fun v st'=>v=eI (Q7 l s)∧st'=st:=by
 refine F7 [3,5] Tryz.func121 ?_
 refine I3 (C5K l (by omega) _) ?_
 refine B7 (fun h=>?_) (fun h=>?_)
 ·rw [h];conv=>whnf
  refine I3 (B5b l (by omega) _ [.fptr (eS s) 0] (fun x=>x.sku.toList==s.toList) _ fun x _=>C6M s x _) ?_
  exact ⟨rfl,rfl⟩
 ·rw [h]
  have hs:A9h (skus l)=true:=by simpa using h
  conv=>whnf
  refine call (C5v l ⟨s,⟨#[]⟩,0,false⟩ hl hs _) (fun v st' hv=>?_)
  obtain ⟨⟨i,b,rfl,hb⟩,rfl⟩:=hv
  conv=>whnf
  cases b with
  | true =>
   conv=>whnf
   rw [if_pos rfl] at hb
   exact ⟨by rw [show Q7 l s=i from hb];rfl,rfl⟩
  | false =>
   conv=>whnf
   rw [if_neg (by simp)] at hb
   exact ⟨by rw [show Q7 l s = -1 from hb];rfl,rfl⟩
def N2 (l:List E6):Int:=l.foldl (fun s x=>s+x.qty) 0
def K5 (l:List E6):Int:=l.foldl (fun s x=>s+x.qty * x.price) 0
theorem A0Q (x:E6):lineC x=true↔(0≤x.qty∧x.qty≤100000)∧(0≤x.price∧x.price≤1000000000):=by
 simp [lineC,J8]
theorem B1W {x:E6} (h:lineC x=true):0≤x.qty * x.price∧x.qty * x.price≤100000000000000:=by
 obtain ⟨⟨a,b⟩,c,d⟩:=(A0Q x).1 h
 exact ⟨D8H a c,D9z b d c (by omega)⟩
theorem D0t (l:List E6) (hl:l.length≤1000) (hok:∀ x∈l,lineC x=true) (st:St):S P 288 [A8 3 I7 l] st fun v st'=>v=.tuple [eI (N2 l),eI (K5 l)]∧st'=st:=by
 refine F7 [7] Tryz.func288 ?_
 refine ⟨[4,5,8,9,10],fun m vs st'=>∃ i:Nat,i≤l.length∧(0≤N2 (l.take i)∧N2 (l.take i)≤i * 100000)∧(0≤K5 (l.take i)∧K5 (l.take i)≤i * 100000000000000)∧m=l.length - i∧vs=[eI (N2 (l.take i)),eI (K5 (l.take i)),A8 3 I7 l,eI l.length,eI i]∧st'=st,?_,?_⟩
 ·conv=>whnf
  exact ⟨_,0,D7C _,⟨D7L _,by simp [N2]⟩,⟨D7L _,by simp [K5]⟩,rfl,rfl,rfl⟩
 ·rintro m vs st' ⟨i,hi,hu,hg,rfl,rfl,rfl⟩
  conv=>whnf
  cases h:decide ((i:Int)<(l.length:Int))
  ·have:=D7g h
   obtain rfl:i=l.length:=by omega
   conv=>whnf
   refine ⟨?_,rfl⟩
   rw [D7m];rfl
  ·have hi':i<l.length:=by have:=D7h h;omega
   have hmem:l.getD (i:Int).toNat default∈l:=by
    rw [D7q,D7c,D7k hi'];exact D8y hi'
   have hx:=hok _ hmem
   obtain ⟨⟨q0,q1⟩,_⟩:=(A0Q _).1 hx
   obtain ⟨m0,m1⟩:=B1W hx
   have eu:N2 (l.take (i+1))=N2 (l.take i)+(l.getD (i:Int).toNat default).qty:=G8 hi' _ _
   have eg:K5 (l.take (i+1))=K5 (l.take i)+(l.getD (i:Int).toNat default).qty * (l.getD (i:Int).toNat default).price:=G8 hi' _ _
   have w1:IntKind.i64.wrap (N2 (l.take i)+(l.getD (i:Int).toNat default).qty)=N2 (l.take (i+1)):=by rw [eu];exact A4 (by omega) (by omega)
   have w2:IntKind.i64.wrap ((l.getD (i:Int).toNat default).qty * (l.getD (i:Int).toNat default).price)=(l.getD (i:Int).toNat default).qty * (l.getD (i:Int).toNat default).price:=A4 (by omega) (by omega)
   have w3:IntKind.i64.wrap (K5 (l.take i)+(l.getD (i:Int).toNat default).qty * (l.getD (i:Int).toNat default).price)=K5 (l.take (i+1)):=by rw [eg];exact A4 (by omega) (by omega)
   conv=>whnf
   refine E9 ?_
   refine G3 ?_
   refine ⟨l.length - (i+1),by omega,i+1,by omega,?_,?_,rfl,?_,rfl⟩
   ·rw [eu];omega
   ·rw [eg];omega
   ·rw [B4 (by omega),←w1,←w3,w2]
def K2 (kn:C8→Bool) (x:E6):Bool:=!(kn x.sku&&lineC x)
def P5 (kn:C8→Bool) (l:List E6):Int :=
 if l.length>1000 then 6 else match l.find? (K2 kn) with
  | some x=>if kn x.sku=true then 2 else 7
  | none=>if (decide (N2 l>100000)||decide (K5 l>10000000000000))=true then 5 else 0
theorem A4C {α : Type} [Inhabited α] {p : α→Bool} {l:List α} {i:Nat} (hi:i<l.length) (h:∀ k,k<i→p (l.getD k default)=false) (hp:p (l.getD i default)=true):l.find? p=some (l.getD i default):=by
 induction l generalizing i with
 | nil=>simp at hi
 | cons a l ih =>
  cases i with
  | zero=>simp only [E0b] at hp ⊢;rw [D9S hp]
  | succ i =>
   have h0:=h 0 (by omega)
   simp only [E0b] at h0
   rw [D9T (by simp [h0])]
   simp only [List.getD_cons_succ] at hp ⊢
   exact ih (by simpa using hi) (fun k hk=>by simpa using h (k+1) (by omega)) hp
theorem A9B {α : Type} [Inhabited α] {p : α→Bool} {l:List α} (h:∀ k,k<l.length→p (l.getD k default)=false):l.find? p=none:=by
 rw [D9G]
 intro x hx
 obtain ⟨i,hi,rfl⟩:=D9d hx
 have:=h i hi
 simpa [hi] using this
theorem A5 {α : Type} [Inhabited α] {l:List α} {i:Nat} (hi:i<l.length):l.getD i default∈l:=by
 rw [D7c,D7k hi];exact D8y hi
theorem D2 {α : Type} [Inhabited α] {l:List α} {x : α} (h:x∈l):∃ i,i<l.length∧x=l.getD i default:=by
 obtain ⟨i,hi,rfl⟩:=D9d h
 exact ⟨i,hi,by simp [hi]⟩
theorem C0h (l:List E6) (kn:C8→Bool) (g:FuncId) (cs:List AV) (st:St) (hg:∀ x∈l,S P g (eS x.sku::cs) st fun v st'=>v=.bool (kn x.sku)∧st'=st) :
  S P 260 [A8 3 I7 l,.fn (.func g) [] cs] st fun v st'=>v=eI (P5 kn l)∧st'=st:=by
 refine F7 [6] Tryz.func260 ?_
 refine B7 (fun h=>?_) (fun h=>?_)<;>rw [h]<;>simp only [D7d,D7e] at h
 ·conv=>whnf
  exact ⟨by rw [show P5 kn l=6 from if_pos (by omega)];rfl,rfl⟩
 have hs:l.length≤1000:=by omega
 have hc:P5 kn l=match l.find? (K2 kn) with
  | some x=>if kn x.sku=true then 2 else 7
  | none=>if (decide (N2 l>100000)||decide (K5 l>10000000000000))=true then 5 else 0:=if_neg (by omega)
 conv=>whnf
 refine ⟨[0,1,12,13,14],fun m vs st'=>∃ i:Nat,i≤l.length∧(∀ k,k<i→K2 kn (l.getD k default)=false)∧m=l.length - i∧vs=[A8 3 I7 l,.fn (.func g) [] cs,A8 3 I7 l,eI l.length,eI i]∧st'=st,?_,?_⟩
 ·conv=>whnf
  exact ⟨_,0,D7C _,fun k hk=>absurd hk (by omega),rfl,rfl,rfl⟩
 ·rintro m vs st' ⟨i,hi,hok,rfl,rfl,rfl⟩
  conv=>whnf
  cases h:decide ((i:Int)<(l.length:Int))
  ·have:=D7g h
   rw [A9B fun k hk=>hok k (by omega)] at hc
   have hall:∀ x∈l,lineC x=true:=fun x hx=>by
    obtain ⟨k,hk,rfl⟩:=D2 hx
    have:=hok k (by omega)
    simp only [K2,D7J,D7f] at this
    exact this.2
   conv=>whnf
   refine I3 (D0t l hs hall _) ?_
   refine B7 (fun h1=>?_) (fun h1=>?_)
   ·rw [h1] at hc ⊢;conv=>whnf
    exact ⟨by rw [hc];rfl,rfl⟩
   ·rw [h1] at hc ⊢;conv=>whnf
    refine B7 (fun h2=>?_) (fun h2=>?_)
    ·rw [h2] at hc ⊢;conv=>whnf
     exact ⟨by rw [hc];rfl,rfl⟩
    ·rw [h2] at hc ⊢;conv=>whnf
     exact ⟨by rw [hc];rfl,rfl⟩
  ·have hi':i<l.length:=by have:=D7h h;omega
   have hmem:l.getD (i:Int).toNat default∈l:=A5 hi'
   conv=>whnf
   refine E9 ?_
   refine I3 (hg _ hmem) ?_
   refine B7 (fun h1=>?_) (fun h1=>?_)
   ·have hk:kn (l.getD (i:Int).toNat default).sku=false:=by simpa using h1
    rw [h1];conv=>whnf
    rw [A4C hi' hok (by show K2 kn (l.getD (i:Int).toNat default)=true;unfold K2;rw [hk];rfl)] at hc
    simp only at hc
    rw [if_neg (by rw [show kn (l.getD i default).sku=false from hk];simp)] at hc
    exact ⟨by rw [hc];rfl,rfl⟩
   ·have hk:kn (l.getD (i:Int).toNat default).sku=true:=by simpa using h1
    rw [h1];conv=>whnf
    refine I3 (C9n (l.getD (i:Int).toNat default) _) ?_
    refine B7 (fun h2=>?_) (fun h2=>?_)
    ·have hl:lineC (l.getD (i:Int).toNat default)=false:=by simpa using h2
     rw [h2];conv=>whnf
     rw [A4C hi' hok (by show K2 kn (l.getD (i:Int).toNat default)=true;unfold K2;rw [hl,D7H];rfl)] at hc
     simp only at hc
     rw [if_pos (show kn (l.getD i default).sku=true from hk)] at hc
     exact ⟨by rw [hc];rfl,rfl⟩
    ·have hl:lineC (l.getD (i:Int).toNat default)=true:=by simpa using h2
     rw [h2];conv=>whnf
     refine G3 ?_
     exact ⟨l.length - (i+1),by omega,i+1,by omega,G9 hok (by show K2 kn (l.getD (i:Int).toNat default)=false;unfold K2;rw [hk,hl];rfl),rfl,by rw [B4 (by omega)],rfl⟩
theorem C3D (s:C8) (st:St):S P 262 [eS s] st fun v st'=>v=.bool true∧st'=st:=by
 refine F7 [] Tryz.func262 ?_
 exact ⟨rfl,rfl⟩
theorem D0Z (l:List E6) (st:St):S P 224 [A8 3 I7 l] st fun v st'=>v=.bool (P5 (fun _=>true) l==0)∧st'=st:=by
 refine F7 [] Tryz.func224 ?_
 refine I3 (C0h l (fun _=>true) _ [] _ fun x _=>C3D x.sku _) ?_
 exact ⟨rfl,rfl⟩
theorem C7c (items:List Ab.Item) (hl:items.length≤9223372036854775807) (s:C8) (st:St):S P 261 [eS s,.fptr (A8 4 F2 items) 0] st fun v st'=>v=.bool (decide (Q7 items s≥0))∧st'=st:=by
 refine F7 [] Tryz.func261 ?_
 refine I3 (B8F items s hl _) ?_
 exact ⟨rfl,rfl⟩
def known (items:List Ab.Item) (s:C8):Bool:=decide (Q7 items s≥0)
theorem C6o (items:List Ab.Item) (l:List E6) (hl:items.length≤9223372036854775807) (st:St):S P 223 [A8 4 F2 items,A8 3 I7 l] st fun v st'=>v=eI (P5 (known items) l)∧st'=st:=by
 refine F7 [2] Tryz.func223 ?_
 refine I3 (C0h l (known items) _ [.fptr (A8 4 F2 items) 0] _ fun x _=>C7c items hl x.sku _) ?_
 exact ⟨rfl,rfl⟩
def C2 (items:List Ab.Item) (l:List E6):List Ab.Item:=l.map fun x=>items.getD (Q7 items x.sku).toNat default
theorem A9I (items:List Ab.Item) (l:List E6) (hi:items.length≤9223372036854775807) (hl:l.length≤1000) (hk:∀ x∈l,known items x.sku=true) (st:St):S P 123 [A8 4 F2 items,A8 3 I7 l] st fun v st'=>v=A8 4 F2 (C2 items l)∧st'=st:=by
 have he:A8 4 F2 (C2 items l)=.arr 4 l.length (fun k=>F2 ((C2 items l).getD k default)):=by unfold A8;rw [show (C2 items l).length=l.length from D7i ..]
 rw [he]
 refine C3t (ty:=86) ?_
 refine F7 [7] Tryz.func123 ?_
 refine ⟨[0,5,9,10,11],fun m vs st'=>∃ (i:Nat) (sv:AV),i≤l.length∧m=l.length - i∧vs=[A8 4 F2 items,sv,A8 3 I7 l,eI l.length,eI i]∧Col 86 4 (fun k=>F2 ((C2 items l).getD k default)) st i sv st',?_,?_⟩
 ·conv=>whnf
  exact ⟨_,0,.emp,D7C _,rfl,rfl,Col.start _ _ _ _⟩
 ·rintro m vs st' ⟨i,sv,hi,rfl,rfl,hc⟩
  conv=>whnf
  cases h:decide ((i:Int)<(l.length:Int))
  ·have:=D7g h
   obtain rfl:i=l.length:=by omega
   conv=>whnf
   exact hc
  ·have hi':i<l.length:=by have:=D7h h;omega
   have hmem:l.getD (i:Int).toNat default∈l:=A5 hi'
   have hkn:=hk _ hmem
   simp only [known,D7d] at hkn
   have hlt:Q7 items (l.getD (i:Int).toNat default).sku<(items.length:Int):=(A9G (fun x:Ab.Item=>x.sku.toList==(l.getD (i:Int).toNat default).sku.toList) items).2
   conv=>whnf
   refine E9 ?_
   refine I3 (B8F items (l.getD (i:Int).toNat default).sku (by omega) _) ?_
   refine B7 (fun h1=>?_) (fun h1=>?_)
   ·exact absurd (D7h h1) (by omega)
   ·rw [h1];conv=>whnf
    refine E9 ?_
    refine Col.app rfl rfl rfl rfl rfl ?_ (by show (i+1) * 48≤140737488355328;omega) hc (fun sv' st'' hc'=>?_)
    ·have e:(C2 items l).getD i default=items.getD (Q7 items (l.getD i default).sku).toNat default:=D4 (fun x:E6=>items.getD (Q7 items x.sku).toNat default) l hi'
     rw [e];rfl
    conv=>whnf
    refine G3 ?_
    exact ⟨l.length - (i+1),by omega,i+1,sv',by omega,rfl,by rw [B4 (by omega)],hc'⟩
abbrev Sm (n:Nat):Prop:=n≤9223372036854775807
theorem A0X (s:C8) (hs:Sm s.size) (st:St):S P 74 [eS s] st fun v st'=>v=.bool (C6 s)∧st'=st:=by
 refine F7 [] Tryz.func74 ?_
 refine lp s.size [0,3] (fun i vs st'=>(∀ k,k<i→okc (chr s k)=true)∧vs=[eS s,eI i]∧st'=st) ?_ ?_
 ·conv=>whnf
  exact ⟨fun k hk=>absurd hk (by omega),rfl,rfl⟩
 ·rintro i vs st' hi ⟨hok,rfl,rfl⟩
  conv=>whnf
  cases h:decide ((i:Int)<(s.size:Int))
  ·obtain rfl:=B9 h hi
   have e:C6 s=(decide ((s.size:Int)≥1)&&decide ((s.size:Int)≤12)):=by
    unfold C6
    rw [A6W hok,D7Q]
    congr 1<;>exact D8P.2 (by omega)
   rw [e];conv=>whnf
   refine B7 (fun h1=>?_) (fun h1=>?_)<;>rw [h1]<;>(conv=>whnf)<;>exact ⟨rfl,rfl⟩
  ·have hi':=D6 h
   have no:okc (chr s i)=false→C6 s=false:=fun h=>by unfold C6;rw [A4G hi' h,D7H]
   have yes:okc (chr s i)=true→∀ k,k<i+1→okc (chr s k)=true:=fun h=>G9 hok h
   conv=>whnf
   refine C7a (i:=i) rfl hi' ?_
   generalize chr s i=c at *
   repeat' ((conv=>whnf);refine B7 (fun h=>?_) (fun h=>?_)<;>rw [h])
   all_goals (conv=>whnf)
   all_goals first
    | (refine ⟨?_,rfl⟩
       rw [no (by rw [←D8h,B1f];simp only [D7v,D7J,D7Z,D7P,ne_eq,D7d,D7e] at *;omega)]
       rfl)
    | (refine ⟨rfl,?_⟩
       conv=>whnf
       exact nx hi' ⟨yes ((B1f c).2 (by simp only [D7v,D7J,D7Z,D7P,ne_eq,D7d,D7e] at *;omega)),by rw [B4 (by omega)],rfl⟩)
theorem A3g (x m:Int) (st:St):S P 136 [eI x,eI m] st fun v st'=>v=.bool (J8 0 m x)∧st'=st:=by
 refine F7 [] Tryz.func136 ?_
 unfold J8
 refine B7 (fun h=>?_) (fun h=>?_)<;>rw [h]<;>(conv=>whnf)<;>exact ⟨rfl,rfl⟩
theorem B9p (l:List C8) (s:C8) (hl:Sm l.length) (st:St):S P 213 [D5 l,eS s] st fun v st'=>v=.bool (l.any fun y=>y.toList==s.toList)∧st'=st:=by
 refine F7 [] Tryz.func213 ?_
 refine lp l.length [0,1,5] (fun i vs st'=>(∀ k,k<i→((l.getD k default).toList==s.toList)=false)∧vs=[D5 l,eS s,eI i]∧st'=st) ?_ ?_
 ·conv=>whnf
  exact ⟨fun k hk=>absurd hk (by omega),rfl,rfl⟩
 ·rintro i vs st' hi ⟨hok,rfl,rfl⟩
  conv=>whnf
  cases h:decide ((i:Int)<(l.length:Int))
  ·obtain rfl:=B9 h hi
   conv=>whnf
   refine ⟨?_,rfl⟩
   rw [D8q.2 fun x hx=>by obtain ⟨k,hk,rfl⟩:=D2 hx;rw [hok k hk];simp];rfl
  ·have hi':=D6 h
   conv=>whnf
   refine E9 ?_
   cases h1:((l.getD (i:Int).toNat default).toList==s.toList)
   ·conv=>whnf
    refine G3 ?_
    exact nx hi' ⟨G9 hok h1,by rw [B4 (by omega)],rfl⟩
   ·conv=>whnf
    refine ⟨?_,rfl⟩
    rw [D8N.2 ⟨_,A5 hi',h1⟩];rfl
theorem C0N (a b:C8):(Op.bytesLess a.toList b.toList||a.toList==b.toList)=!slt b a:=by
 show (slt a b||_)=_
 cases h:slt a b with
 | true=>rw [A7l h];rfl
 | false =>
  cases h2:slt b a with
  | true =>
   rw [D7R,D7S,D7P]
   intro e
   rw [B4x e.symm e,h] at h2;cases h2
  | false=>rw [D7R,D7Z.2 (A7m h h2)];rfl
theorem B2L (l:List C8) (m:Int) (hl:Sm l.length) (hs:∀ s∈l,Sm s.size) (st:St):S P 132 [D5 l,eI m] st fun v st'=>v=.bool (A1e l&&decide ((l.length:Int)≤m))∧st'=st:=by
 have hN:A1e l=M0 l fun k x=>C6 x&&P7 l k:=by
  unfold A1e A0H M0
  rw [←D9l]
  simp only [D7f,D7s,D7t,D7v,D8q,D8h,D7J]
  exact ⟨fun ⟨a,b⟩ k hk=>⟨D9y _▸b _ (A5 hk),a k hk⟩,fun h=>⟨fun k hk=>(h k hk).2,fun x hx=>by obtain ⟨k,hk,rfl⟩:=D2 hx;rw [(h k hk).1];simp⟩⟩
 rw [hN]
 refine F7 [] Tryz.func132 ?_
 refine lp l.length [0,1,5] (fun i vs st'=>(∀ k,k<i→(C6 (l.getD k default)&&P7 l k)=true)∧vs=[D5 l,eI m,eI i]∧st'=st) ?_ ?_
 ·conv=>whnf
  exact ⟨fun k hk=>absurd hk (by omega),rfl,rfl⟩
 ·rintro i vs st' hi ⟨hok,rfl,rfl⟩
  conv=>whnf
  cases h:decide ((i:Int)<(l.length:Int))
  ·obtain rfl:=B9 h hi
   conv=>whnf
   rw [L3 hok]
   exact ⟨rfl,rfl⟩
  ·have hi':=D6 h
   have yes:(C6 (l.getD (i:Int).toNat default)&&P7 l i)=true→∀ k,k<i+1→(C6 (l.getD k default)&&P7 l k)=true:=fun h=>G9 hok h
   have no:(C6 (l.getD (i:Int).toNat default)&&P7 l i)=false→(M0 l fun k x=>C6 x&&P7 l k)=false:=fun h=>Y0 hi' h
   conv=>whnf
   refine ⟨[],[],List.range 22,by kernel_rfl,?_⟩;conv=>whnf
   refine E9 ?_
   have n1:=A0X (l.getD (i:Int).toNat default) (hs _ (A5 hi')) st'
   generalize C6 (l.getD (i:Int).toNat default)=b1 at n1 no yes
   refine cqW n1 ?_
   cases b1
   ·conv=>whnf
    rw [no rfl]
    exact ⟨rfl,rfl⟩
   ·rw [D7u] at no yes;conv=>whnf
    cases h2:decide ((i:Int)>0)
    ·have h0:i=0:=by have:=D7g h2;omega
     conv=>whnf
     refine G3 ?_
     exact nx hi' ⟨yes (by rw [h0];rfl),by rw [B4 (by omega)],rfl⟩
    ·have hp:0<i:=by have:=D7h h2;omega
     have hw:IntKind.i64.wrap ((i:Int) - 1)=((i - 1:Nat):Int):=by rw [A4 (by omega) (by omega)];omega
     have e:P7 l i=!(Op.bytesLess (l.getD (i:Int).toNat default).toList (l.getD ((i - 1:Nat):Int).toNat default).toList||(l.getD (i:Int).toNat default).toList==(l.getD ((i - 1:Nat):Int).toNat default).toList):=by
      rw [C0N,D8v]
      unfold P7
      rw [D7q,D7q,D8Q (by omega),D7R]
     rw [e] at yes no;conv=>whnf
     refine E9 ?_
     rw [hw]
     refine E9 ?_
     generalize (Op.bytesLess (l.getD (i:Int).toNat default).toList (l.getD ((i - 1:Nat):Int).toNat default).toList||(l.getD (i:Int).toNat default).toList==(l.getD ((i - 1:Nat):Int).toNat default).toList)=b at *
     cases b
     ·conv=>whnf
      refine G3 ?_
      exact nx hi' ⟨yes rfl,by rw [B4 (by omega)],rfl⟩
     ·conv=>whnf
      rw [no rfl]
      exact ⟨rfl,rfl⟩
structure A2A (s:Z4):Prop where
 n1:Sm s.skus.length
 n2:Sm s.cats.length
 s1:∀ x∈s.skus,Sm x.size
 s2:∀ x∈s.cats,Sm x.size
theorem B7u (s:Z4) (h:A2A s) (st:St):S P 239 [A4h s] st fun v st'=>v=.bool (A0I s)∧st'=st:=by
 refine F7 [1] Tryz.func239 ?_
 refine B2 (B2L s.skus 20 h.n1 h.s1 st) ?_
 have e:A0I s=((A1e s.skus&&decide ((s.skus.length:Int)≤20))&&(A1e s.cats&&decide ((s.cats.length:Int)≤20))):=by
  unfold A0I
  rw [Bool.and_comm (decide _),Bool.and_comm (decide (s.cats.length≤20))]
  rw [show decide ((s.skus.length:Int)≤20)=decide (s.skus.length≤20) from D8P.2 (by omega),show decide ((s.cats.length:Int)≤20)=decide (s.cats.length≤20) from D8P.2 (by omega)]
 rw [e]
 cases (A1e s.skus&&decide ((s.skus.length:Int)≤20))
 ·conv=>whnf
  exact ⟨rfl,rfl⟩
 ·conv=>whnf
  refine I3 (B2L s.cats 20 h.n2 h.s2 st) ?_
  exact ⟨rfl,rfl⟩
theorem B5y (l:List Ab.Item) (s:C8) (hl:Sm l.length) (st:St):S P 96 [A8 4 F2 l,eS s] st fun v st'=>v=eI (Q7 l s)∧st'=st:=by
 refine F7 [] Tryz.func96 ?_
 refine lp l.length [0,1,5] (fun i vs st'=>(∀ k,k<i→((l.getD k default).sku.toList==s.toList)=false)∧vs=[A8 4 F2 l,eS s,eI i]∧st'=st) ?_ ?_
 ·conv=>whnf
  exact ⟨fun k hk=>absurd hk (by omega),rfl,rfl⟩
 ·rintro i vs st' hi ⟨hok,rfl,rfl⟩
  conv=>whnf
  cases h:decide ((i:Int)<(l.length:Int))
  ·obtain rfl:=B9 h hi
   conv=>whnf
   exact ⟨by rw [show Q7 l s = -1 from U8 fun k hk=>hok k hk];rfl,rfl⟩
  ·have hi':=D6 h
   conv=>whnf
   refine E9 ?_
   refine B7 (fun h1=>?_) (fun h1=>?_)<;>rw [h1]
   ·conv=>whnf
    exact ⟨by rw [show Q7 l s=i from A1V hi' hok h1];rfl,rfl⟩
   ·conv=>whnf
    refine G3 ?_
    exact nx hi' ⟨G9 hok h1,by rw [B4 (by omega)],rfl⟩
theorem B5A {L:List C8} {i:Nat} (hp:0<i):P7 L i=!(Op.bytesLess (L.getD i default).toList (L.getD (i - 1) default).toList||(L.getD i default).toList==(L.getD (i - 1) default).toList):=by
 rw [C0N,D8v]
 unfold P7
 rw [D8Q (by omega),D7R]
theorem A7E {i:Nat} (h:0<i) (h2:i<9223372036854775807):IntKind.i64.wrap ((i:Int) - 1)=((i - 1:Nat):Int):=by rw [A4 (by omega) (by omega)];omega
def A6l (l:List Ab.Item) (k:Nat) (x:Ab.Item):Bool:=C6 x.sku&&C6 x.cat&&J8 0 1000000000 x.price&&P7 (l.map Ab.Item.sku) k
theorem C5e (l:List Ab.Item) (hl:Sm l.length) (hs:∀ x∈l,Sm x.sku.size∧Sm x.cat.size) (st:St):S P 133 [A8 4 F2 l] st fun v st'=>v=.bool (A1W l)∧st'=st:=by
 have hN:A1W l=(M0 l (A6l l)&&decide ((l.length:Int)≤500)):=by
  unfold A1W M0 A0H A6l A4E J8
  rw [D7i,←D9l]
  simp only [D7f,D7s,D7t,D7v,D8n,D7J,D7d,D7e]
  constructor
  ·rintro ⟨h1,h2,h3⟩
   exact ⟨fun k hk=>⟨⟨⟨(h2 k hk).1.1.1,(h2 k hk).1.1.2⟩,by have:=(h2 k hk).1.2;have:=(h2 k hk).2;omega⟩,h3 k hk⟩,by omega⟩
  ·rintro ⟨h1,h2⟩
   exact ⟨by omega,fun k hk=>⟨⟨⟨(h1 k hk).1.1.1,(h1 k hk).1.1.2⟩,by have:=(h1 k hk).1.2;omega⟩,by have:=(h1 k hk).1.2;omega⟩,fun k hk=>(h1 k hk).2⟩
 rw [hN]
 refine F7 [] Tryz.func133 ?_
 refine lp l.length [0,3] (fun i vs st'=>(∀ k,k<i→A6l l k (l.getD k default)=true)∧vs=[A8 4 F2 l,eI i]∧st'=st) ?_ ?_
 ·conv=>whnf
  exact ⟨fun k hk=>absurd hk (by omega),rfl,rfl⟩
 ·rintro i vs st' hi ⟨hok,rfl,rfl⟩
  conv=>whnf
  cases h:decide ((i:Int)<(l.length:Int))
  ·obtain rfl:=B9 h hi
   conv=>whnf
   rw [L3 hok]
   exact ⟨rfl,rfl⟩
  ·have hi':=D6 h
   have yes:A6l l i (l.getD (i:Int).toNat default)=true→∀ k,k<i+1→A6l l k (l.getD k default)=true:=fun h=>G9 hok h
   have no:A6l l i (l.getD (i:Int).toNat default)=false→M0 l (A6l l)=false:=fun h=>Y0 hi' h
   have hm:=hs _ (A5 hi')
   have n1:=A0X (l.getD (i:Int).toNat default).sku hm.1 st'
   have n2:=A0X (l.getD (i:Int).toNat default).cat hm.2 st'
   have n3:=A3g (l.getD (i:Int).toNat default).price 1000000000 st'
   have e:0<i→P7 (l.map Ab.Item.sku) i=!(Op.bytesLess (l.getD i default).sku.toList (l.getD (i - 1) default).sku.toList||(l.getD i default).sku.toList==(l.getD (i - 1) default).sku.toList):=fun hp=>by
    rw [B5A hp]
    have e1:(l.map Ab.Item.sku).getD i default=(l.getD i default).sku:=D4 Ab.Item.sku l hi'
    have e2:(l.map Ab.Item.sku).getD (i - 1) default=(l.getD (i - 1) default).sku:=D4 Ab.Item.sku l (by omega)
    rw [e1,e2]
   have e0:i=0→P7 (l.map Ab.Item.sku) i=true:=fun h=>by rw [h];rfl
   rw [show A6l l i (l.getD (i:Int).toNat default)=(C6 (l.getD (i:Int).toNat default).sku&&C6 (l.getD (i:Int).toNat default).cat&&J8 0 1000000000 (l.getD (i:Int).toNat default).price&&P7 (l.map Ab.Item.sku) i) from rfl] at yes no
   generalize C6 (l.getD (i:Int).toNat default).sku=b1 at n1 yes no
   generalize C6 (l.getD (i:Int).toNat default).cat=b2 at n2 yes no
   generalize J8 0 1000000000 (l.getD (i:Int).toNat default).price=b3 at n3 yes no
   conv=>whnf
   refine ⟨[],[],List.range 43,by kernel_rfl,?_⟩
   cases h0:decide ((i:Int)>0)
   ·have h0':i=0:=by have:=D7g h0;omega
    replace e:=e0 h0'
    repeat' ((conv=>whnf);first | refine ⟨rfl,⟨by omega,by omega⟩,?_⟩ | refine ⟨_,F3 n1,?_⟩ | refine ⟨_,F3 n2,?_⟩ | refine ⟨_,F3 n3,?_⟩ | rw [h0] | cases b1 | cases b2 | cases b3)
    all_goals (conv=>whnf)
    all_goals first
     | (rw [no (by rfl)];exact ⟨rfl,rfl⟩)
     | (refine ⟨rfl,?_⟩;conv=>whnf
        exact nx hi' ⟨yes (by rw [e];rfl),by rw [B4 (by omega)],rfl⟩)
   ·have h0':0<i:=by have:=D7h h0;omega
    replace e:=e h0'
    have hw:=A7E h0' (by omega)
    repeat' ((conv=>whnf);first | refine ⟨rfl,⟨by omega,by omega⟩,?_⟩ | refine ⟨rfl,⟨by rw [hw];omega,by rw [hw];omega⟩,?_⟩ | refine ⟨_,F3 n1,?_⟩ | refine ⟨_,F3 n2,?_⟩ | refine ⟨_,F3 n3,?_⟩ | rw [h0] | cases b1 | cases b2 | cases b3 | refine B7 (fun h=>?_) (fun h=>?_))
    all_goals (conv=>whnf)
    all_goals first
     | (rw [no (by rfl)];exact ⟨rfl,rfl⟩)
     | (rw [hw] at h;rw [no (by rw [e];exact D9e not h)];exact ⟨rfl,rfl⟩)
     | (rw [hw] at h;refine ⟨rfl,?_⟩;conv=>whnf
        exact nx hi' ⟨yes (by rw [e];exact D9e not h),by rw [B4 (by omega)],rfl⟩)
end Go.Proofs.YtaapofnkmpiknaaGreat
namespace Go.Ab
abbrev QE:=Int×Int
def H2 (a b:QE):Bool:=decide (a.1>b.1)||(a.1==b.1&&decide (a.2<b.2))
theorem A9W (a b:QE):H2 a b=true↔a.1>b.1∨(a.1=b.1∧a.2<b.2):=by simp [H2]
theorem T2 (a b:QE):H2 a b=false↔¬(a.1>b.1∨(a.1=b.1∧a.2<b.2)):=by rw [←A9W,D8h]
theorem A0F {a b:QE} (h:H2 a b=true):H2 b a=false:=by rw [A9W] at h;rw [T2];omega
theorem A3q (a:QE):H2 a a=false:=by rw [T2];omega
theorem A0T {a b c:QE} (h:H2 a b=false) (k:H2 b c=false):H2 a c=false:=by rw [T2] at *;omega
theorem C9p {a b c:QE} (h:H2 a b=false) (k:H2 c b=true):H2 a c=false:=by rw [T2] at *;rw [A9W] at k;omega
theorem A4J {a b:QE} (h:H2 a b=false) (k:H2 b a=false):a=b:=by
 rw [T2] at *
 exact Prod.ext (by omega) (by omega)
abbrev at_ (l:List QE) (k:Nat):QE:=l.getD k default
def swp (l:List QE) (i j:Nat):List QE:=(l.set i (at_ l j)).set j (at_ l i)
theorem B5U (l:List QE) (i j:Nat):(swp l i j).length=l.length:=by simp [swp]
theorem A8f {l:List QE} {i j:Nat} (hi:i<l.length) (hj:j<l.length) (k:Nat):at_ (swp l i j) k=if k=j then at_ l i else if k=i then at_ l j else at_ l k:=by
 unfold swp at_
 simp only [D7c,D8W,D8p]
 by_cases h1:k=j
 ·subst h1;simp [hj]
 ·rw [if_neg (fun e=>h1 e.symm),if_neg h1]
  by_cases h2:k=i
  ·subst h2;simp [hi]
  ·rw [if_neg (fun e=>h2 e.symm),if_neg h2]
theorem B2Z {l:List QE} {i j:Nat} (hi:i<l.length) (hj:j<l.length):(swp l i j).Perm l:=by
 have e1:at_ l j=l[j]:=by simp [at_,hj]
 have e2:at_ l i=l[i]:=by simp [at_,hi]
 unfold swp
 rw [e1,e2]
 exact List.set_set_perm hi hj
def Nah (l:List QE) (c p:Nat):Prop:=H2 (at_ l c) (at_ l p)=false
def par (c:Nat):Nat:=(c - 1) / 2
def A6a (l:List QE) (m:Nat):Prop:=∀ c,0<c→c<m→Nah l c (par c)
structure Rise (l:List QE) (m j:Nat):Prop where
 a:∀ c,0<c→c<m→c≠j→Nah l c (par c)
 b:∀ c,0<c→c<m→par c=j→0<j→Nah l c (par j)
structure Sink (l:List QE) (m i:Nat):Prop where
 a:∀ c,0<c→c<m→par c≠i→Nah l c (par c)
 b:∀ c,0<c→c<m→par c=i→0<i→Nah l c (par i)
theorem Rise.done {l:List QE} {m j:Nat} (h:Rise l m j) (hj:j=0∨Nah l j (par j)):A6a l m:=fun c h0 hc=>by
 by_cases e:c=j
 ·subst e;rcases hj with hj | hj
  ·omega
  ·exact hj
 ·exact h.a c h0 hc e
theorem Rise.step {l:List QE} {m j:Nat} (h:Rise l m j) (hm:m≤l.length) (hj:j<m) (h0:0<j) (ha:H2 (at_ l j) (at_ l (par j))=true):Rise (swp l (par j) j) m (par j):=by
 have hp:par j<j:=by unfold par;omega
 have sw:=A8f (l:=l) (i:=par j) (j:=j) (by omega) (by omega)
 refine ⟨fun c hc0 hcm hne=>?_,fun c hc0 hcm hpc hp0=>?_⟩
 ·have hpc:par c<c:=by unfold par;omega
  unfold Nah
  rw [sw c,sw (par c)]
  by_cases ecj:c=j
  ·subst ecj
   rw [if_pos rfl,if_neg (by omega),if_pos rfl]
   exact A0F ha
  ·rw [if_neg ecj,if_neg hne]
   by_cases epj:par c=j
   ·rw [if_pos epj];exact h.b c hc0 hcm epj h0
   ·rw [if_neg epj]
    by_cases epi:par c=par j
    ·rw [if_pos epi]
     have:=h.a c hc0 hcm ecj
     unfold Nah at this;rw [epi] at this
     exact C9p this ha
    ·rw [if_neg epi];exact h.a c hc0 hcm ecj
 ·have hpp:par (par j)<par j:=by unfold par at *;omega
  have hpj:=h.a (par j) hp0 (by omega) (by omega)
  unfold Nah at *
  rw [sw c,sw (par (par j)),if_neg (show ¬ par (par j)=j by omega),if_neg (show ¬ par (par j)=par j by omega)]
  by_cases ecj:c=j
  ·rw [if_pos ecj];exact hpj
  ·rw [if_neg ecj,if_neg (show ¬ c=par j by unfold par at *;omega)]
   have:=h.a c hc0 hcm ecj
   unfold Nah at this;rw [hpc] at this
   exact A0T this hpj
theorem Sink.done {l:List QE} {m i:Nat} (h:Sink l m i) (hc:∀ c,0<c→c<m→par c=i→Nah l c i):A6a l m:=fun c h0 hcm=>by
 by_cases e:par c=i
 ·rw [e];exact hc c h0 hcm e
 ·exact h.a c h0 hcm e
theorem Sink.step {l:List QE} {m i j:Nat} (h:Sink l m i) (hm:m≤l.length) (hj:j<m) (h0:0<j) (hp:par j=i) (ha:H2 (at_ l j) (at_ l i)=true)
  (hb:∀ c,0<c→c<m→par c=i→Nah l c j):Sink (swp l i j) m j:=by
 have hij:i<j:=by rw [←hp];unfold par;omega
 have sw:=A8f (l:=l) (i:=i) (j:=j) (by omega) (by omega)
 refine ⟨fun c hc0 hcm hne=>?_,fun c hc0 hcm hpc hp0=>?_⟩
 ·have hpc:par c<c:=by unfold par;omega
  unfold Nah
  rw [sw c,sw (par c),if_neg hne]
  by_cases ecj:c=j
  ·subst ecj
   rw [if_pos rfl,if_pos hp]
   exact A0F ha
  ·rw [if_neg ecj]
   by_cases epi:par c=i
   ·rw [if_pos epi,if_neg (by omega)]
    exact hb c hc0 hcm epi
   ·rw [if_neg epi]
    by_cases eci:c=i
    ·rw [if_pos eci]
     subst eci
     exact h.b j h0 hj hp hc0
    ·rw [if_neg eci];exact h.a c hc0 hcm epi
 ·have:j<c:=by unfold par at hpc;omega
  unfold Nah
  rw [hp,sw c,sw i,if_neg (show ¬ c=j by omega),if_neg (show ¬ c=i by omega),if_neg (show ¬ i=j by omega),if_pos rfl]
  have:=h.a c hc0 hcm (by omega)
  unfold Nah at this;rw [hpc] at this;exact this
theorem A6a.top {l:List QE} {m:Nat} (h:A6a l m):∀ k,k<m→Nah l k 0:=by
 intro k
 induction k using Nat.strongRecOn with
 | _ k ih =>
  intro hk
  rcases D8w k with e | e
  ·subst e;exact A3q _
  ·have hp:par k<k:=by unfold par;omega
   exact A0T (h k e hk) (ih (par k) hp (by omega))
theorem A6a.up {l:List QE} {m:Nat} (h:A6a l m) (x:QE) (hm:m=l.length):Rise (l++[x]) (m+1) m:=by
 have old:∀ k,k<m→at_ (l++[x]) k=at_ l k:=fun k hk=>by
  unfold at_;rw [D7c,D7c,D7B (by omega)]
 refine ⟨fun c h0 hc hne=>?_,fun c h0 hc hpc hm0=>?_⟩
 ·have hp:par c<c:=by unfold par;omega
  unfold Nah
  rw [old c (by omega),old (par c) (by omega)]
  exact h c h0 (by omega)
 ·unfold par at hpc;omega
theorem A6a.down {l:List QE} {m:Nat} (h:A6a l (m+1)) (hm:m<l.length):Sink (swp l 0 m) m 0:=by
 have sw:=A8f (l:=l) (i:=0) (j:=m) (by omega) (by omega)
 refine ⟨fun c h0 hc hne=>?_,fun c h0 hc hpc h00=>by omega⟩
 have hp:par c<c:=by unfold par;omega
 unfold Nah
 rw [sw c,sw (par c),if_neg (by omega),if_neg (by omega),if_neg (by omega),if_neg hne]
 exact h c h0 (by omega)
end Go.Ab
namespace Go.Proofs.YtaapofnkmpiknaaGreat
open Go Go.Ab
attribute [local irreducible] upd del
def A6i (x:QE):AV:=.agg [eI x.1,eI x.2]
def A3y (st:St) (b:Nat) (l:List QE):Prop:=∃ f,st b=some ⟨320,2,l.length,f⟩∧∀ k,k<l.length→f k=A6i (at_ l k)
theorem B1T (b:Nat) (l:List QE) (n i j:Nat) (st:St) (h:A3y st b l) (hn:n≤l.length) (hi:i<n) (hj:j<n) :
  S P 362 [.own 2 b 0 n,eI i,eI j] st fun v st'=>v=.bool (H2 (at_ l i) (at_ l j))∧st'=st:=by
 obtain ⟨f,hst,hf⟩:=h
 refine F7 [] Tryz.func362 ?_
 refine ⟨[],[],[0,1,2,3,4,5,6,7,8,9,10,11,12,13,14,15,16,17,18,19,20,21,22,23,24,25,26,27,28,29,30,31,32,33,34,35,36,37],by kernel_rfl,?_⟩;conv=>whnf
 have fi:f (0+(i:Int).toNat)=A6i (at_ l i):=by rw [D7o];exact hf i (by omega)
 have fj:f (0+(j:Int).toNat)=A6i (at_ l j):=by rw [D7o];exact hf j (by omega)
 have li:0+(i:Int).toNat<l.length:=by omega
 have lj:0+(j:Int).toNat<l.length:=by omega
 refine E9 ?_
 refine ldV hst rfl li fi ?_;conv=>whnf
 refine E9 ?_
 refine ldV hst rfl lj fj ?_;conv=>whnf
 unfold H2
 refine B7 (fun h1=>?_) (fun h1=>?_)<;>rw [h1]
 ·conv=>whnf
  exact ⟨rfl,rfl⟩
 conv=>whnf
 refine E9 ?_
 refine ldV hst rfl li fi ?_;conv=>whnf
 refine E9 ?_
 refine ldV hst rfl lj fj ?_;conv=>whnf
 refine B7 (fun h2=>?_) (fun h2=>?_)<;>rw [h2]
 ·conv=>whnf
  refine E9 ?_
  refine ldV hst rfl li fi ?_;conv=>whnf
  refine E9 ?_
  refine ldV hst rfl lj fj ?_;conv=>whnf
  exact ⟨rfl,rfl⟩
 ·conv=>whnf
  exact ⟨rfl,rfl⟩
theorem len_S (b n:Nat) (st:St):S P 361 [.own 2 b 0 n] st fun v st'=>v=eI n∧st'=st:=by
 refine F7 [] Tryz.func361 ?_
 exact ⟨rfl,rfl⟩
theorem B9I (b:Nat) (l:List QE) (n i j:Nat) (st:St) (h:A3y st b l) (hn:n≤l.length) (hi:i<n) (hj:j<n) :
  S P 363 [.own 2 b 0 n,eI i,eI j] st fun v st'=>v=.tuple []∧A3y st' b (swp l i j)∧∀ c,c≠b→st' c=st c:=by
 obtain ⟨f,hst,hf⟩:=h
 refine F7 [] Tryz.func363 ?_
 have fi:f (0+(i:Int).toNat)=A6i (at_ l i):=by rw [D7o];exact hf i (by omega)
 have fj:f (0+(j:Int).toNat)=A6i (at_ l j):=by rw [D7o];exact hf j (by omega)
 have li:0+(i:Int).toNat<l.length:=by omega
 have lj:0+(j:Int).toNat<l.length:=by omega
 have ei:0+(i:Int).toNat=i:=by omega
 have ej:0+(j:Int).toNat=j:=by omega
 have hfj:I6 f (0+(i:Int).toNat) (Q8 (A6i (at_ l i)) 0 (cellsOf (A6i (at_ l j)))) (0+(j:Int).toNat)=A6i (at_ l j):=by
  by_cases h:j=i
  ·subst h;rw [A6];rfl
  ·rw [H7 (by omega)];exact fj
 refine ⟨[13,15],[],[0,1,2,3,4,5,6,7,8,9,10,11,12,13,14,15],by kernel_rfl,?_⟩;conv=>whnf
 refine E9 ?_
 refine ldV hst rfl lj fj ?_;conv=>whnf
 refine E9 ?_
 refine ldV hst rfl li fi ?_;conv=>whnf
 refine E9 ?_
 refine stV hst rfl li fi (by rfl) ?_;conv=>whnf
 refine E9 ?_
 refine stV (v:=A6i (at_ l j)) (A0 ..) rfl lj hfj (by rfl) ?_;conv=>whnf
 refine ⟨rfl,⟨_,by rw [A0,B5U],fun k hk=>?_⟩,fun c hc=>by rw [B0 hc,B0 hc]⟩
 rw [B5U] at hk
 rw [A8f (by omega) (by omega)]
 by_cases h1:k=j
 ·subst h1
  rw [if_pos rfl,ej,A6];rfl
 ·rw [if_neg h1,H7 (by omega)]
  by_cases h2:k=i
  ·subst h2
   rw [if_pos rfl,ei,A6];rfl
  ·rw [if_neg h2,H7 (by omega)];exact hf k hk
def A4W (st:St) (q:Nat) (sv:AV):Prop:=∃ f,st q=some ⟨315,1,1,f⟩∧f 0=.agg [sv]
abbrev hI (q:Nat):AV:=.iface 318 (.optr 1 q 0 0)
theorem A4W.frame {st st':St} {q b:Nat} {sv:AV} (h:A4W st q sv) (hqb:q≠b) (hf:∀ c,c≠b→st' c=st c):A4W st' q sv:=by
 obtain ⟨f,h1,h2⟩:=h
 exact ⟨f,by rw [hf q hqb];exact h1,h2⟩
theorem D4D (j:Nat) (hj:j<4611686018427387904):IntKind.i64.wrap ((IntKind.i64.wrap ((j:Int) - 1)).tdiv 2)=((par j:Nat):Int):=by
 rw [A4 (x:=(j:Int) - 1) (by omega) (by omega)]
 unfold par
 rcases D8w j with e | e
 ·subst e;rfl
 ·rw [D8L (by omega),A4 (by omega) (by omega)];omega
theorem D0R (q b:Nat) (l:List QE) (j:Nat) (st:St) (hq:A4W st q (.own 2 b 0 l.length)) (hqb:q≠b) (he:A3y st b l) (hr:Ab.Rise l l.length j) (hj:j<l.length) (hl:l.length<4611686018427387904) :
  S P 290 [hI q,eI j] st fun v st'=>v=.tuple []∧∃ l',l'.Perm l∧A6a l' l.length∧A3y st' b l'∧∀ c,c≠b→st' c=st c:=by
 refine F7 [] Tryz.func290 ?_
 refine ⟨[0,1],fun m vs st'=>∃ (j:Nat) (l':List QE),l'.Perm l∧A3y st' b l'∧(∀ c,c≠b→st' c=st c)∧Ab.Rise l' l.length j∧j<l.length∧m=j∧vs=[hI q,eI j],?_,?_⟩
 ·conv=>whnf
  exact ⟨_,j,l,List.Perm.refl _,he,fun c _=>rfl,hr,hj,rfl,rfl⟩
 ·clear hr hj he
  rintro j vs st' ⟨_,l',hp,he,hfr,hr,hj,rfl,rfl⟩
  have hlen:l'.length=l.length:=hp.length_eq
  obtain ⟨f,hqs,hq0⟩:=hq.frame hqb hfr
  have hpj:par j≤j:=by unfold par;omega
  conv=>whnf
  rw [D4D j (by omega)]
  refine B7 (fun h1=>?_) (fun h1=>?_)<;>rw [h1]
  ·have:j=0:=by
    have:=D7h h1
    unfold par at this;omega
   conv=>whnf
   exact ⟨rfl,l',hp,hr.done (.inl this),he,hfr⟩
  ·have hj0:0<j:=by
    rcases D8w j with e | e
    ·subst e;cases h1
    ·exact e
   conv=>whnf
   refine L1 hqs hq0 ?_
   refine I3 (B1T b l' l.length j (par j) _ he (by omega) (by omega) (by omega)) ?_
   refine B7 (fun h2=>?_) (fun h2=>?_)<;>rw [h2]
   ·conv=>whnf
    exact ⟨rfl,l',hp,hr.done (.inr (by have:=h2;simp only [D7v] at this;exact this)),he,hfr⟩
   ·have h2':H2 (at_ l' j) (at_ l' (par j))=true:=by have:=h2;simp only [D7J] at this;exact this
    have hlt:par j<j:=by unfold par;omega
    conv=>whnf
    refine L1 hqs hq0 ?_
    refine call (B9I b l' l.length (par j) j _ he (by omega) (by omega) (by omega)) (fun v st'' hv=>?_)
    obtain ⟨rfl,he',hfr'⟩:=hv
    conv=>whnf
    refine G3 ?_
    exact ⟨par j,hlt,par j,swp l' (par j) j,(B2Z (by omega) (by omega)).trans hp,he',fun c hc=>(hfr' c hc).trans (hfr c hc),hr.step (by omega) hj hj0 h2',by omega,rfl,rfl⟩
theorem j1W (i:Nat) (hi:i<2305843009213693952):IntKind.i64.wrap (IntKind.i64.wrap (2 * (i:Int))+1)=((2 * i+1:Nat):Int):=by
 rw [A4 (x:=2 * (i:Int)) (by omega) (by omega),A4 (by omega) (by omega)];omega
theorem C6W (q b:Nat) (l:List QE) (n m:Nat) (st:St) (hq:A4W st q (.own 2 b 0 n)) (hqb:q≠b) (he:A3y st b l) (hs:Ab.Sink l m 0) (hmn:m≤n) (hn:n≤l.length) (hl:l.length<2305843009213693952) :
  S P 291 [hI q,eI 0,eI m] st fun v st'=>(∃ x,v=.bool x)∧∃ l',l'.Perm l∧(∀ k,m≤k→at_ l' k=at_ l k)∧A6a l' m∧A3y st' b l'∧∀ c,c≠b→st' c=st c:=by
 refine F7 [] Tryz.func291 ?_
 refine ⟨[0,1,2,7],fun t vs st'=>∃ (i:Nat) (l':List QE),l'.Perm l∧(∀ k,m≤k→at_ l' k=at_ l k)∧A3y st' b l'∧(∀ c,c≠b→st' c=st c)∧Ab.Sink l' m i∧i≤l.length∧t=l.length - i∧vs=[hI q,eI 0,eI m,eI i],?_,?_⟩
 ·conv=>whnf
  exact ⟨_,0,l,List.Perm.refl _,fun _ _=>rfl,he,fun c _=>rfl,hs,D7C _,rfl,rfl⟩
 ·clear hs he
  rintro t vs st' ⟨i,l',hp,hk,he,hfr,hs,hi,rfl,rfl⟩
  have hlen:l'.length=l.length:=hp.length_eq
  obtain ⟨f,hqs,hq0⟩:=hq.frame hqb hfr
  have kid:∀ c,0<c→(par c=i↔c=2 * i+1∨c=2 * i+2):=fun c hc=>by unfold par;omega
  conv=>whnf
  rw [j1W i (by omega)]
  refine B7 (fun h1=>?_) (fun h1=>?_)<;>rw [h1]<;>simp only [D7d,D7e] at h1
  ·conv=>whnf
   exact ⟨⟨_,rfl⟩,l',hp,hk,hs.done (fun c hc0 hcm hpc=>by have:=(kid c hc0).1 hpc;omega),he,hfr⟩
  have him:2 * i+1<m:=by omega
  conv=>whnf
  have w2:IntKind.i64.wrap (((2 * i+1:Nat):Int)+1)=((2 * i+2:Nat):Int):=by rw [A4 (by omega) (by omega)];omega
  rw [w2]
  -- behind the choice of a child
  have tail:∀ (j:Nat),0<j→j<m→par j=i→(∀ c,0<c→c<m→par c=i→Nah l' c j)→∀ (K:KK),(∀ v st'' l'',v=.tuple []→l''.Perm l→(∀ k,m≤k→at_ l'' k=at_ l k)→A3y st'' b l''→(∀ c,c≠b→st'' c=st c)→H2 (at_ l' j) (at_ l' i)=true→Ab.Sink l'' m j→K v st'')→H2 (at_ l' j) (at_ l' i)=true→A2l P 363 [.own 2 b 0 n,eI i,eI j] st' K:=by
   intro j hj0 hjm hpj hbest K hK hpr
   have hij:i<j:=by rw [←hpj];unfold par;omega
   refine call (B9I b l' n i j _ he (by omega) (by omega) (by omega)) (fun v st'' hv=>?_)
   obtain ⟨rfl,he',hfr'⟩:=hv
   refine hK _ _ (swp l' i j) rfl ((B2Z (by omega) (by omega)).trans hp) (fun k hkm=>?_) he' (fun c hc=>(hfr' c hc).trans (hfr c hc)) hpr (hs.step (by omega) hjm hj0 hpj hpr hbest)
   rw [A8f (by omega) (by omega),if_neg (by omega),if_neg (by omega)];exact hk k hkm
  refine B7 (fun h3=>?_) (fun h3=>?_)<;>rw [h3]<;>simp only [D7d,D7e] at h3
  ·conv=>whnf
   refine L1 hqs hq0 ?_
   refine I3 (B1T b l' n (2 * i+2) (2 * i+1) _ he (by omega) (by omega) (by omega)) ?_
   refine B7 (fun h4=>?_) (fun h4=>?_)<;>rw [h4]
   ·have hbest:∀ c,0<c→c<m→par c=i→Nah l' c (2 * i+2):=fun c hc0 hcm hpc=>by
     rcases (kid c hc0).1 hpc with e | e
     ·subst e;exact A0F h4
     ·subst e;exact A3q _
    conv=>whnf
    refine L1 hqs hq0 ?_
    refine I3 (B1T b l' n (2 * i+2) i _ he (by omega) (by omega) (by omega)) ?_
    refine B7 (fun h5=>?_) (fun h5=>?_)<;>rw [h5]
    ·conv=>whnf
     exact ⟨⟨_,rfl⟩,l',hp,hk,hs.done (fun c hc0 hcm hpc=>A0T (hbest c hc0 hcm hpc) (show Nah l' (2 * i+2) i by have:=h5;simp only [D7v] at this;exact this)),he,hfr⟩
    ·conv=>whnf
     refine L1 hqs hq0 ?_
     refine tail (2 * i+2) (by omega) (by omega) ((kid _ (by omega)).2 (.inr rfl)) hbest _ (fun v st'' l'' hv hp' hk' he' hfr' hpr hs'=>?_) (by have:=h5;simp only [D7J] at this;exact this)
     subst hv;conv=>whnf
     refine G3 ?_
     exact ⟨l.length - (2 * i+2),by omega,2 * i+2,l'',hp',hk',he',hfr',hs',by omega,rfl,rfl⟩
   ·have hbest:∀ c,0<c→c<m→par c=i→Nah l' c (2 * i+1):=fun c hc0 hcm hpc=>by
     rcases (kid c hc0).1 hpc with e | e
     ·subst e;exact A3q _
     ·subst e;exact h4
    conv=>whnf
    refine L1 hqs hq0 ?_
    refine I3 (B1T b l' n (2 * i+1) i _ he (by omega) (by omega) (by omega)) ?_
    refine B7 (fun h5=>?_) (fun h5=>?_)<;>rw [h5]
    ·conv=>whnf
     exact ⟨⟨_,rfl⟩,l',hp,hk,hs.done (fun c hc0 hcm hpc=>A0T (hbest c hc0 hcm hpc) (show Nah l' (2 * i+1) i by have:=h5;simp only [D7v] at this;exact this)),he,hfr⟩
    ·conv=>whnf
     refine L1 hqs hq0 ?_
     refine tail (2 * i+1) (by omega) (by omega) ((kid _ (by omega)).2 (.inl rfl)) hbest _ (fun v st'' l'' hv hp' hk' he' hfr' hpr hs'=>?_) (by have:=h5;simp only [D7J] at this;exact this)
     subst hv;conv=>whnf
     refine G3 ?_
     exact ⟨l.length - (2 * i+1),by omega,2 * i+1,l'',hp',hk',he',hfr',hs',by omega,rfl,rfl⟩
  ·have hbest:∀ c,0<c→c<m→par c=i→Nah l' c (2 * i+1):=fun c hc0 hcm hpc=>by
    rcases (kid c hc0).1 hpc with e | e
    ·subst e;exact A3q _
    ·omega
   conv=>whnf
   refine L1 hqs hq0 ?_
   refine I3 (B1T b l' n (2 * i+1) i _ he (by omega) (by omega) (by omega)) ?_
   refine B7 (fun h5=>?_) (fun h5=>?_)<;>rw [h5]
   ·conv=>whnf
    exact ⟨⟨_,rfl⟩,l',hp,hk,hs.done (fun c hc0 hcm hpc=>A0T (hbest c hc0 hcm hpc) (show Nah l' (2 * i+1) i by have:=h5;simp only [D7v] at this;exact this)),he,hfr⟩
   ·conv=>whnf
    refine L1 hqs hq0 ?_
    refine tail (2 * i+1) (by omega) (by omega) ((kid _ (by omega)).2 (.inl rfl)) hbest _ (fun v st'' l'' hv hp' hk' he' hfr' hpr hs'=>?_) (by have:=h5;simp only [D7J] at this;exact this)
    subst hv;conv=>whnf
    refine G3 ?_
    exact ⟨l.length - (2 * i+1),by omega,2 * i+1,l'',hp',hk',he',hfr',hs',by omega,rfl,rfl⟩
theorem A3y.frame {st st':St} {b c:Nat} {l:List QE} (h:A3y st b l) (hc:c≠b) (hf:∀ a,a≠c→st' a=st a):A3y st' b l:=by
 obtain ⟨f,h1,h2⟩:=h
 exact ⟨f,by rw [hf b (fun e=>hc e.symm)];exact h1,h2⟩
theorem C9g (q b:Nat) (l:List QE) (n:Nat) (st:St) (hq:A4W st q (.own 2 b 0 (n+1))) (hqb:q≠b) (he:A3y st b l) (hn:n<l.length) (hl:l.length<2305843009213693952) :
  S P 364 [.optr 1 q 0 0] st fun v st'=>v=.iface 320 (A6i (at_ l n))∧A4W st' q (.own 2 b 0 n)∧∀ c,c≠q→st' c=st c:=by
 obtain ⟨fq,hqs,hq0⟩:=hq
 obtain ⟨f,hst,hf⟩:=he
 refine F7 [4] Tryz.func364 ?_
 refine L1 hqs hq0 ?_
 have w:IntKind.i64.wrap (((n+1:Nat):Int) - 1)=(n:Int):=by rw [A4 (by omega) (by omega)];omega
 rw [w]
 refine L1 hqs hq0 ?_
 refine E9 ?_
 refine ldV hst rfl (by omega) (v:=A6i (at_ l n)) (by rw [show 0+(n:Int).toNat=n by omega];exact hf n hn) ?_;conv=>whnf
 refine L1 hqs hq0 ?_
 refine ⟨rfl,⟨by omega,by omega,by omega⟩,.inl rfl,?_⟩;conv=>whnf
 refine stW hqs hq0 ?_
 refine ⟨rfl,⟨_,A0 ..,?_⟩,fun c hc=>by rw [B0 hc]⟩
 rw [A6]
 show AV.agg [AV.own 2 b _ _]=_
 congr 3<;>simp
theorem C6L (q:Nat) (sv:AV) (l:List QE) (x:QE) (st st0:St) (hq:A4W st q sv) (h0:st0 q=none) (hsup:F8 st0 st) (hl:l.length<2305843009213)
  (hs:(l=[]∧sv=.emp)∨∃ b,q≠b∧st0 b=none∧sv=.own 2 b 0 l.length∧A3y st b l) :
  S P 365 [.optr 1 q 0 0,.iface 320 (A6i x)] st fun v st'=>v=.tuple []∧∃ b,q≠b∧st0 b=none∧A4W st' q (.own 2 b 0 (l.length+1))∧A3y st' b (l++[x])∧F8 st0 st':=by
 obtain ⟨fq,hqs,hq0⟩:=hq
 refine F7 [] Tryz.func365 ?_
 intro c hc
 have hcq:q≠c:=fun e=>by subst e;rw [hqs] at hc;cases hc
 conv=>whnf
 refine stW (A0 ..) rfl ?_
 refine ⟨[6,8],[],[0,1,2,3,4,5,6,7,8],by kernel_rfl,?_⟩;conv=>whnf
 refine L1 (by rw [B0 hcq,B0 hcq];exact hqs) hq0 ?_
 have hc0:st0 c=none:=hsup.none hc
 rcases hs with ⟨rfl,rfl⟩ | ⟨b,hqb,hb0,rfl,f,hst,hf⟩
 ·conv=>whnf
  refine L1 (A0 ..) rfl ?_
  refine ⟨_,⟨rfl,rfl⟩,?_⟩;conv=>whnf
  refine apE rfl rfl rfl rfl (A3P ..) (by show 1 * 16≤_;omega) (fun h=>absurd h (by omega)) (fun _ b hb=>?_)
  have hbq:b≠q:=fun e=>by subst e;rw [B0 hcq,B0 hcq,hqs] at hb;cases hb
  have hbc:b≠c:=fun e=>by subst e;rw [A0] at hb;cases hb
  have hb':st b=none:=by rw [B0 hbc,B0 hbc] at hb;exact hb
  conv=>whnf
  refine stW (by rw [B0 hbq.symm,B0 hcq,B0 hcq];exact hqs) hq0 ?_
  refine ⟨rfl,b,hbq.symm,hsup.none hb',⟨_,A0 ..,by rw [A6];rfl⟩,⟨_,by rw [B0 hbq,A0];rfl,fun k hk=>?_⟩,?_⟩
  ·have:k=0:=by simpa using hk
   subst this;rfl
  ·exact (((hsup.over hc0).over hc0).over (hsup.none hb')).over h0
 ·have hbc:b≠c:=fun e=>by subst e;rw [hst] at hc;cases hc
  conv=>whnf
  refine L1 (A0 ..) rfl ?_
  refine ⟨_,⟨rfl,rfl⟩,?_⟩;conv=>whnf
  refine apO (q:=C9Y) (n:=l.length) rfl rfl rfl rfl (A3P ..) (by rw [B0 hbc,B0 hbc];exact hst) rfl rfl rfl (by show (l.length+1) * 16≤_;omega) (fun h=>absurd h (by omega)) (fun _ b' hb'=>?_)
  have hb'q:b'≠q:=fun e=>by
   subst e
   rcases hb' with e | e
   ·exact hqb e
   ·rw [B0 hcq,B0 hcq,hqs] at e;cases e
  have hb'0:st0 b'=none:=by
   rcases hb' with rfl | e
   ·exact hb0
   ·by_cases hbc':b'=c
    ·subst hbc';exact hc0
    ·rw [B0 hbc',B0 hbc'] at e;exact hsup.none e
  conv=>whnf
  refine stW (by rw [B0 hb'q.symm];unfold del;rw [if_neg hqb,B0 hcq,B0 hcq];exact hqs) hq0 ?_
  refine ⟨rfl,b',hb'q.symm,hb'0,⟨_,A0 ..,by rw [A6];rfl⟩,⟨_,by rw [B0 hb'q,A0,D7p];rfl,fun k hk=>?_⟩,?_⟩
  ·rw [D7p] at hk
   simp only [D7N,D8u] at hk
   unfold at_
   by_cases hkl:k<l.length
   ·simp only [hkl,if_true]
    rw [hf k hkl,D7c,D7B hkl,←D7c]
   ·have:k=l.length:=by omega
    subst this
    simp only [Nat.lt_irrefl,D9L,Nat.sub_self]
    rw [show (l++[x]).getD l.length default=x by simp [D7c]]
    rfl
  ·exact ((((hsup.over hc0).over hc0).del hb0).over hb'0).over h0
theorem C6X (q:Nat) (sv:AV) (l:List QE) (x:QE) (st st0:St) (hq:A4W st q sv) (h0:st0 q=none) (hsup:F8 st0 st) (hl:l.length<2305843009213) (hh:A6a l l.length)
  (hs:(l=[]∧sv=.emp)∨∃ b,q≠b∧st0 b=none∧sv=.own 2 b 0 l.length∧A3y st b l) :
  S P 266 [hI q,.iface 320 (A6i x)] st fun v st'=>v=.tuple []∧∃ b l',q≠b∧st0 b=none∧l'.Perm (l++[x])∧A6a l' l'.length∧A4W st' q (.own 2 b 0 l'.length)∧A3y st' b l'∧F8 st0 st':=by
 refine F7 [] Tryz.func266 ?_
 refine call (C6L q sv l x st st0 hq h0 hsup hl hs) (fun v st' hv=>?_)
 obtain ⟨rfl,b,hqb,hb0,⟨fq,hqs,hq0⟩,he,hsup'⟩:=hv
 conv=>whnf
 refine L1 hqs hq0 ?_
 refine I3 (len_S b (l.length+1) _) ?_
 have w:IntKind.i64.wrap (((l.length+1:Nat):Int) - 1)=(l.length:Int):=by rw [A4 (by omega) (by omega)];omega
 rw [w]
 have e1:(l++[x]).length=l.length+1:=by simp
 have hr:Ab.Rise (l++[x]) (l++[x]).length l.length:=by rw [e1];exact hh.up x rfl
 refine call (D0R q b (l++[x]) l.length _ (by rw [e1];exact ⟨fq,hqs,hq0⟩) hqb he hr (by omega) (by omega)) (fun v st'' hv=>?_)
 obtain ⟨rfl,l',hp,hh',he',hfr⟩:=hv
 conv=>whnf
 have el:l'.length=(l++[x]).length:=hp.length_eq
 refine ⟨rfl,b,l',hqb,hb0,hp,by rw [el];exact hh',?_,he',fun c y hc=>?_⟩
 ·rw [el,e1];exact A4W.frame ⟨fq,hqs,hq0⟩ hqb hfr
 ·rw [hfr c (fun e=>by subst e;rw [hb0] at hc;cases hc)];exact hsup' c y hc
theorem C2W {l l':List QE} {m:Nat} (hm:m<l.length) (hp:l'.Perm l) (hk:∀ k,m≤k→at_ l' k=at_ (swp l 0 m) k):(at_ l 0::l'.take m).Perm (l.take (m+1)):=by
 have hlen:l'.length=l.length:=hp.length_eq
 have e1:l'.drop m=at_ l 0::l.drop (m+1):=by
  refine List.ext_getElem? fun i=>?_
  rw [D8J]
  have hi:=hk (m+i) (by omega)
  rw [A8f (by omega) hm] at hi
  rcases D8E (m+i) l.length with h | h
  ·have a1:l'[m+i]?=some (at_ l' (m+i)):=by
    unfold at_;rw [D7c,D7k (by omega)];rfl
   rw [a1,hi]
   cases i with
   | zero=>simp
   | succ i =>
    rw [if_neg (by omega),if_neg (by omega),D9N,D8J]
    unfold at_
    rw [D7c,show m+(i+1)=m+1+i by omega,D7k (by omega)];rfl
  ·rw [D9C (by omega)]
   cases i with
   | zero=>omega
   | succ i=>rw [D9N,D8J,D9C (by omega)]
 have h1:(l'.take m++(at_ l 0::l.drop (m+1))).Perm (l.take (m+1)++l.drop (m+1)):=by
  rw [←e1,D9r,D9r];exact hp
 have h2:((at_ l 0::l'.take m)++l.drop (m+1)).Perm (l.take (m+1)++l.drop (m+1)):=by
  refine List.Perm.trans ?_ h1
  exact List.perm_middle.symm
 exact (List.perm_append_right_iff _).1 h2
theorem C9l (q b:Nat) (l:List QE) (n:Nat) (st:St) (hq:A4W st q (.own 2 b 0 (n+1))) (hqb:q≠b) (he:A3y st b l) (hh:A6a l (n+1)) (hn:n<l.length) (hl:l.length<2305843009213693952) :
  S P 267 [hI q] st fun v st'=>v=.iface 320 (A6i (at_ l 0))∧∃ l',l'.length=l.length∧(at_ l 0::l'.take n).Perm (l.take (n+1))∧A6a l' n∧A4W st' q (.own 2 b 0 n)∧A3y st' b l'∧∀ c,c≠q→c≠b→st' c=st c:=by
 obtain ⟨fq,hqs,hq0⟩:=hq
 refine F7 [] Tryz.func267 ?_
 refine L1 hqs hq0 ?_
 refine I3 (len_S b (n+1) _) ?_
 have w:IntKind.i64.wrap (((n+1:Nat):Int) - 1)=(n:Int):=by rw [A4 (by omega) (by omega)];omega
 rw [w]
 refine L1 hqs hq0 ?_
 refine call (B9I b l (n+1) 0 n _ he (by omega) (by omega) (by omega)) (fun v st1 hv=>?_)
 obtain ⟨rfl,he1,hfr1⟩:=hv
 have hq1:A4W st1 q (.own 2 b 0 (n+1)):=A4W.frame ⟨fq,hqs,hq0⟩ hqb hfr1
 have hd:Ab.Sink (swp l 0 n) n 0:=hh.down hn
 have hsl:(swp l 0 n).length=l.length:=B5U l 0 n
 conv=>whnf
 refine call (C6W q b (swp l 0 n) (n+1) n _ hq1 hqb he1 hd (by omega) (by omega) (by omega)) (fun v st2 hv=>?_)
 obtain ⟨⟨y,rfl⟩,l',hp,hk,hh',he2,hfr2⟩:=hv
 have hl':l'.length=l.length:=hp.length_eq.trans hsl
 have hq2:A4W st2 q (.own 2 b 0 (n+1)):=hq1.frame hqb hfr2
 have htop:at_ l' n=at_ l 0:=by rw [hk n (D7l _),A8f (by omega) hn,if_pos rfl]
 conv=>whnf
 refine call (C9g q b l' n _ hq2 hqb he2 (by omega) (by omega)) (fun v st3 hv=>?_)
 obtain ⟨rfl,hq3,hfr3⟩:=hv
 rw [htop];conv=>whnf
 refine ⟨rfl,l',hl',C2W hn (hp.trans (B2Z (by omega) hn)) hk,hh',hq3,he2.frame hqb hfr3,fun c h1 h2=>by rw [hfr3 c h1,hfr2 c h2,hfr1 c h2]⟩
structure QSt (st0:St) (q:Nat) (fresh:Bool) (es:List QE) (st:St):Prop where
 new:st0 q=none
 sup:F8 st0 st
 has:∃ sv,A4W st q sv∧((es=[]∧sv=.emp)∨∃ b l n,q≠b∧st0 b=none∧sv=.own 2 b 0 n∧n≤l.length∧l.length<2305843009213∧A6a l n∧A3y st b l∧(l.take n).Perm es∧(fresh=true→n=l.length))
theorem QSt.perm {st0 st:St} {q:Nat} {f:Bool} {es es':List QE} (h:QSt st0 q f es st) (hp:es.Perm es'):QSt st0 q f es' st:=by
 obtain ⟨h1,h2,sv,hq,h3⟩:=h
 refine ⟨h1,h2,sv,hq,?_⟩
 rcases h3 with ⟨rfl,hs⟩ | ⟨b,l,n,a1,a2,a3,a4,a5,a6,a7,a8,a9⟩
 ·exact .inl ⟨List.Perm.eq_nil hp.symm,hs⟩
 ·exact .inr ⟨b,l,n,a1,a2,a3,a4,a5,a6,a7,a8.trans hp,a9⟩
theorem B2y (st:St):S P 226 [] st fun v st'=>∃ q,v=.optr 1 q 0 0∧QSt st q true [] st':=by
 refine F7 [] Tryz.func226 ?_
 intro q hq;conv=>whnf
 exact ⟨q,rfl,hq,(F8.refl st).upd hq,.emp,⟨_,A0 ..,rfl⟩,.inl ⟨rfl,rfl⟩⟩
theorem A8W (st0:St) (q:Nat) (es:List QE) (r k:Int) (st:St) (h:QSt st0 q true es st) (hl:es.length<2305843009212):S P 228 [.optr 1 q 0 0,eI r,eI k] st fun v st'=>v=.tuple []∧QSt st0 q true (es++[(r,k)]) st':=by
 obtain ⟨h1,h2,sv,hq,h3⟩:=h
 refine F7 [] Tryz.func228 ?_
 have hex:∃ l:List QE,l.Perm es∧A6a l l.length∧((l=[]∧sv=.emp)∨∃ b,q≠b∧st0 b=none∧sv=.own 2 b 0 l.length∧A3y st b l):=by
  rcases h3 with ⟨rfl,hs⟩ | ⟨b,l,n,a1,a2,a3,a4,a5,a6,a7,a8,a9⟩
  ·exact ⟨[],List.Perm.refl _,fun c h0 hc=>absurd hc (by simp),.inl ⟨rfl,hs⟩⟩
  ·have e:=a9 rfl
   subst e
   rw [D7m] at a8
   exact ⟨l,a8,a6,.inr ⟨b,a1,a2,a3,a7⟩⟩
 obtain ⟨l,hp,hh,hs⟩:=hex
 have hll:l.length=es.length:=hp.length_eq
 refine call (C6X q sv l (r,k) st st0 hq h1 h2 (by omega) hh hs) (fun v st' hv=>?_)
 obtain ⟨rfl,b,l',hqb,hb0,hp',hh',hq',he',hsup'⟩:=hv
 have hl':l'.length=l.length+1:=by rw [hp'.length_eq];simp
 conv=>whnf
 exact ⟨rfl,h1,hsup',_,hq',.inr ⟨b,l',l'.length,hqb,hb0,rfl,D7l _,by omega,hh',he',by rw [D7m];exact hp'.trans (hp.append_right _),fun _=>rfl⟩⟩
theorem A9X (st0:St) (q:Nat) (f:Bool) (es:List QE) (st:St) (h:QSt st0 q f es st):S P 229 [.optr 1 q 0 0] st fun v st'=>v=eI es.length∧st'=st:=by
 obtain ⟨h1,h2,sv,⟨fq,hqs,hq0⟩,h3⟩:=h
 refine F7 [] Tryz.func229 ?_
 rcases h3 with ⟨rfl,rfl⟩ | ⟨b,l,n,a1,a2,rfl,a4,a5,a6,a7,a8,a9⟩
 ·refine L1 hqs hq0 ?_
  exact ⟨rfl,rfl⟩
 ·refine L1 hqs hq0 ?_
  refine ⟨?_,rfl⟩
  have:es.length=n:=by rw [←a8.length_eq,D7n];omega
  rw [this];rfl
theorem C7w (st0:St) (q:Nat) (f:Bool) (st:St) (h:QSt st0 q f [] st):S P 230 [.optr 1 q 0 0] st fun v st'=>v=.tuple [eI 0,eI 0,.bool false]∧st'=st:=by
 obtain ⟨h1,h2,sv,⟨fq,hqs,hq0⟩,h3⟩:=h
 refine F7 [] Tryz.func230 ?_
 rcases h3 with ⟨_,rfl⟩ | ⟨b,l,n,a1,a2,rfl,a4,a5,a6,a7,a8,a9⟩
 ·refine L1 hqs hq0 ?_
  exact ⟨rfl,rfl⟩
 ·have e:n=0:=by
   have:=a8.length_eq
   rw [D7n,D8u] at this;omega
  subst e
  refine L1 hqs hq0 ?_
  exact ⟨rfl,rfl⟩
theorem A9Y (st0:St) (q:Nat) (f:Bool) (x:QE) (es:List QE) (st:St) (h:QSt st0 q f (x::es) st) (htop:∀ y∈es,H2 y x=false):S P 230 [.optr 1 q 0 0] st fun v st'=>v=.tuple [eI x.1,eI x.2,.bool true]∧QSt st0 q false es st':=by
 obtain ⟨h1,h2,sv,hq,h3⟩:=h
 rcases h3 with ⟨h,_⟩ | ⟨b,l,n,a1,a2,rfl,a4,a5,a6,a7,a8,a9⟩
 ·cases h
 have hn:n=es.length+1:=by
  have:=a8.length_eq
  rw [D7n,D7N] at this;omega
 subst hn
 have hx:at_ l 0=x:=by
  have m0:at_ l 0∈x::es:=by
   refine a8.subset ?_
   have:(l.take (es.length+1)).getD 0 default=at_ l 0:=by
    unfold at_;rw [D7c,D7c,D7r (by omega)]
   rw [←this];exact A5 (by rw [D7n];omega)
  have hmem:x∈l.take (es.length+1):=a8.symm.subset (D7G ..)
  obtain ⟨k,hk,he⟩:=D2 hmem
  rw [D7n] at hk
  have hxk:x=at_ l k:=by
   rw [he];unfold at_;rw [D7c,D7c,D7r (by omega)]
  have t1:H2 x (at_ l 0)=false:=by rw [hxk];exact a6.top k (by omega)
  rcases D8A.1 m0 with e | e
  ·exact e
  ·exact A4J (htop _ e) t1
 have hq':=hq
 obtain ⟨fq,hqs,hq0⟩:=hq
 refine F7 [] Tryz.func230 ?_
 refine L1 hqs hq0 ?_
 refine call (C9l q b l es.length st hq' a1 a7 a6 (by omega) (by omega)) (fun v st' hv=>?_)
 obtain ⟨rfl,l',hl',hp',hh',hq3,he3,hfr⟩:=hv
 rw [hx] at hp' ⊢
 have hsup':F8 st0 st':=fun c y hc=>by
  rw [hfr c (fun e=>by subst e;rw [h1] at hc;cases hc) (fun e=>by subst e;rw [a2] at hc;cases hc)];exact h2 c y hc
 conv=>whnf
 intro c hc;conv=>whnf
 refine stW (A0 ..) rfl ?_
 refine ⟨[],[],[0,1,2,3,4,5,6],by kernel_rfl,?_⟩;conv=>whnf
 refine L1 (A0 ..) rfl ?_
 refine L1 (A0 ..) rfl ?_
 obtain ⟨fq',hqs',hq0'⟩:=hq3
 obtain ⟨fe,hes,hef⟩:=he3
 have hcq:q≠c:=fun e=>by subst e;rw [hqs'] at hc;cases hc
 have hcb:b≠c:=fun e=>by subst e;rw [hes] at hc;cases hc
 have hc0:st0 c=none:=hsup'.none hc
 refine ⟨rfl,h1,(hsup'.over hc0).over hc0,_,⟨fq',by rw [B0 hcq,B0 hcq];exact hqs',hq0'⟩,.inr ⟨b,l',es.length,a1,a2,rfl,by omega,by omega,hh',⟨fe,by rw [B0 hcb,B0 hcb];exact hes,hef⟩,?_,fun e=>by cases e⟩⟩
 exact (List.perm_cons x).1 (hp'.trans a8)
abbrev gI (l:List Int) (k:Nat):Int:=l.getD k default
def swI (l:List Int) (i j:Nat):List Int:=(l.set i (gI l j)).set j (gI l i)
theorem C0V (l:List Int) (i j:Nat):(swI l i j).length=l.length:=by simp [swI]
theorem B9H {l:List Int} {i j:Nat} (hi:i<l.length) (hj:j<l.length) (k:Nat):gI (swI l i j) k=if k=j then gI l i else if k=i then gI l j else gI l k:=by
 unfold swI gI
 simp only [D7c,D8W,D8p]
 by_cases h1:k=j
 ·subst h1;simp [hj]
 ·rw [if_neg (fun e=>h1 e.symm),if_neg h1]
  by_cases h2:k=i
  ·subst h2;simp [hi]
  ·rw [if_neg (fun e=>h2 e.symm),if_neg h2]
theorem C5P {l:List Int} {i j:Nat} (hi:i<l.length) (hj:j<l.length):(swI l i j).Perm l:=by
 have e1:gI l j=l[j]:=by simp [gI,hj]
 have e2:gI l i=l[i]:=by simp [gI,hi]
 unfold swI
 rw [e1,e2]
 exact List.set_set_perm hi hj
def A5Y (st:St) (b:Nat) (l:List Int):Prop:=∃ f,st b=some ⟨3,1,l.length,f⟩∧∀ k,k<l.length→f k=eI (gI l k)
structure Ord (lt:Int→Int→Bool):Prop where
 asymm:∀ x y,lt x y=true→lt y x=false
 le:∀ x y z,lt y x=false→lt z y=false→lt z x=false
def Srt (lt:Int→Int→Bool) (l:List Int) (a e:Nat):Prop:=∀ x y,a≤x→x<y→y<e→lt (gI l y) (gI l x)=false
structure Ins (lt:Int→Int→Bool) (l:List Int) (a e j:Nat):Prop where
 rest:∀ x y,a≤x→x<y→y<e→x≠j→y≠j→lt (gI l y) (gI l x)=false
 up:∀ y,j<y→y<e→lt (gI l y) (gI l j)=false
theorem Srt.ins {lt:Int→Int→Bool} {l:List Int} {a i:Nat} (h:Srt lt l a i):Ins lt l a (i+1) i :=
 ⟨fun x y hx hxy hy h1 h2=>h x y hx hxy (by omega),fun y h1 h2=>by omega⟩
theorem Ins.done {lt:Int→Int→Bool} (ho:Ord lt) {l:List Int} {a e j:Nat} (h:Ins lt l a e j) (hj:j≤a∨lt (gI l j) (gI l (j - 1))=false):Srt lt l a e:=fun x y hx hxy hy=>by
 by_cases h1:x=j
 ·subst h1;exact h.up y hxy hy
 ·by_cases h2:y=j
  ·subst h2
   rcases hj with hj | hj
   ·omega
   ·by_cases h3:x=y - 1
    ·subst h3;exact hj
    ·exact ho.le _ _ _ (h.rest x (y - 1) hx (by omega) (by omega) h1 (by omega)) hj
  ·exact h.rest x y hx hxy hy h1 h2
theorem Ins.step {lt:Int→Int→Bool} (ho:Ord lt) {l:List Int} {a e j:Nat} (h:Ins lt l a e j) (hj:a<j) (hje:j<e) (he:e≤l.length) (hlt:lt (gI l j) (gI l (j - 1))=true):Ins lt (swI l j (j - 1)) a e (j - 1):=by
 have sw:=B9H (l:=l) (i:=j) (j:=j - 1) (by omega) (by omega)
 refine ⟨fun x y hx hxy hy h1 h2=>?_,fun y h1 h2=>?_⟩
 ·rw [sw x,sw y,if_neg h1,if_neg h2]
  by_cases hxj:x=j
  ·rw [if_pos hxj,if_neg (by omega)]
   exact h.rest (j - 1) y (by omega) (by omega) hy (by omega) (by omega)
  ·rw [if_neg hxj]
   by_cases hyj:y=j
   ·rw [if_pos hyj]
    exact h.rest x (j - 1) hx (by omega) (by omega) hxj (by omega)
   ·rw [if_neg hyj];exact h.rest x y hx hxy hy hxj hyj
 ·rw [sw y,sw (j - 1),if_neg (by omega),if_pos rfl]
  by_cases hyj:y=j
  ·rw [if_pos hyj];exact ho.asymm _ _ hlt
  ·rw [if_neg hyj];exact h.up y (by omega) h2
theorem B5a (b:Nat) (l:List Int) (n a e:Nat) (g:FuncId) (cs:List AV) (cf:Int→Int→Int) (lt:Int→Int→Bool) (hlt:∀ x y,decide (cf x y<0)=lt x y) (ho:Ord lt) (st:St) (hb:A5Y st b l) (hae:a≤e) (he:e≤n) (hn:n≤l.length) (hl:l.length<4611686018427387904)
  (hg:∀ x∈l,∀ y∈l,∀ st',S P g (eI x::eI y::cs) st' fun v s=>v=eI (cf x y)∧s=st') :
  S P 310 [.own 1 b 0 n,eI a,eI e,.fn (.func g) [] cs] st fun v st'=>v=.tuple []∧∃ l',l'.Perm l∧Srt lt l' a e∧(∀ k,k<a∨e≤k→gI l' k=gI l k)∧A5Y st' b l'∧∀ c,c≠b→st' c=st c:=by
 refine F7 [] Tryz.func310 ?_
 refine ⟨[0,1,2,3,8],fun m vs st'=>∃ (i:Nat) (l':List Int),a<i∧(i≤e∨i=a+1)∧l'.Perm l∧Srt lt l' a i∧(∀ k,k<a∨e≤k→gI l' k=gI l k)∧A5Y st' b l'∧(∀ c,c≠b→st' c=st c)∧m=e - i∧vs=[.own 1 b 0 n,eI a,eI e,.fn (.func g) [] cs,eI i],?_,?_⟩
 ·conv=>whnf
  exact ⟨_,a+1,l,by omega,.inr rfl,List.Perm.refl _,fun x y h1 h2 h3=>by omega,fun _ _=>rfl,hb,fun _ _=>rfl,rfl,by rw [B4 (by omega)]⟩
 ·rintro m vs st' ⟨i,l',hai,hie,hp,hs,hout,hb',hfr,rfl,rfl⟩
  have hlen:l'.length=l.length:=hp.length_eq
  conv=>whnf
  cases h:decide ((i:Int)<(e:Int))
  ·have:=D7g h
   conv=>whnf
   refine ⟨rfl,l',hp,fun x y h1 h2 h3=>hs x y h1 h2 (by omega),hout,hb',hfr⟩
  ·have hi:i<e:=by have:=D7h h;omega
   conv=>whnf
   refine ⟨[0,1,2,3,8,9],fun m vs st''=>∃ (j:Nat) (l'':List Int),a≤j∧j≤i∧l''.Perm l∧Ins lt l'' a (i+1) j∧(∀ k,k<a∨e≤k→gI l'' k=gI l k)∧A5Y st'' b l''∧(∀ c,c≠b→st'' c=st c)∧m=j∧vs=[.own 1 b 0 n,eI a,eI e,.fn (.func g) [] cs,eI i,eI j],?_,?_⟩
   ·conv=>whnf
    exact ⟨_,i,l',by omega,D7l _,hp,hs.ins,hout,hb',hfr,rfl,rfl⟩
   ·clear hp hs hout hb' hfr hlen
    rintro j vs st'' ⟨_,l'',haj,hji,hp,hs,hout,⟨f,hst,hf⟩,hfr,rfl,rfl⟩
    have hlen:l''.length=l.length:=hp.length_eq
    have next:Srt lt l'' a (i+1)→∃ m',m'<e - i∧∃ (i_1:Nat) (l':List Int),a<i_1∧(i_1≤e∨i_1=a+1)∧l'.Perm l∧Srt lt l' a i_1∧(∀ k,k<a∨e≤k→gI l' k=gI l k)∧A5Y st'' b l'∧(∀ c,c≠b→st'' c=st c)∧m'=e - i_1∧[AV.own 1 b 0 n,eI a,eI e,.fn (.func g) [] cs,eI (IntKind.i64.wrap ((i:Int)+1))]=[.own 1 b 0 n,eI a,eI e,.fn (.func g) [] cs,eI i_1] :=
     fun hsrt=>⟨e - (i+1),by omega,i+1,l'',by omega,.inl (by omega),hp,hsrt,hout,⟨f,hst,hf⟩,hfr,rfl,by rw [B4 (by omega)]⟩
    conv=>whnf
    refine ⟨[],[],[0,1,2,3,4,5,6,7,8,9,10,11,12,13,14,15,16],by kernel_rfl,?_⟩;conv=>whnf
    refine B7 (fun h1=>?_) (fun h1=>?_)<;>rw [h1]<;>simp only [D7d,D7e] at h1
    ·have w:IntKind.i64.wrap ((j:Int) - 1)=((j - 1:Nat):Int):=by rw [A4 (by omega) (by omega)];omega
     have fj:f (0+(j:Int).toNat)=eI (gI l'' j):=by rw [show 0+(j:Int).toNat=j by omega];exact hf j (by omega)
     have fj1:f (0+((j - 1:Nat):Int).toNat)=eI (gI l'' (j - 1)):=by rw [show 0+((j - 1:Nat):Int).toNat=j - 1 by omega];exact hf (j - 1) (by omega)
     conv=>whnf
     refine E9 ?_
     refine L1 hst fj ?_
     rw [w]
     refine E9 ?_
     refine L1 hst fj1 ?_
     refine cqW (hg (gI l'' j) (hp.subset (A5 (by omega))) (gI l'' (j - 1)) (hp.subset (A5 (by omega))) _) ?_
     rw [hlt]
     refine B7 (fun h2=>?_) (fun h2=>?_)<;>rw [h2]
     ·have hfj1:I6 f (0+(j:Int).toNat) (Q8 (eI (gI l'' j)) 0 (cellsOf (eI (gI l'' (j - 1))))) (0+((j - 1:Nat):Int).toNat)=eI (gI l'' (j - 1)):=(H7 (by omega)).trans fj1
      conv=>whnf
      refine ⟨[15,17],[],[0,1,2,3,4,5,6,7,8,9,10,11,12,13,14,15,16,17],by kernel_rfl,?_⟩;conv=>whnf
      rw [w]
      refine E9 ?_
      refine L1 hst fj1 ?_
      refine E9 ?_
      refine L1 hst fj ?_
      refine E9 ?_
      refine stW hst fj ?_
      refine E9 ?_
      refine stW (A0 ..) hfj1 ?_
      refine G3 ?_
      have hjl:j<l''.length:=by omega
      refine ⟨j - 1,by omega,j - 1,swI l'' j (j - 1),by omega,by omega,(C5P hjl (by omega)).trans hp,hs.step ho (by omega) (by omega) (by omega) h2,fun k hk=>?_,⟨_,by rw [A0,C0V],fun k hk=>?_⟩,fun c hc=>by rw [B0 hc,B0 hc];exact hfr c hc,rfl,by rw [w]⟩
      ·rw [B9H hjl (by omega),if_neg (by omega),if_neg (by omega)];exact hout k hk
      ·rw [C0V] at hk
       rw [B9H hjl (by omega)]
       by_cases e1:k=j - 1
       ·subst e1
        rw [if_pos rfl,show 0+((j - 1:Nat):Int).toNat=j - 1 by omega,A6];rfl
       ·rw [if_neg e1,H7 (by omega)]
        by_cases e2:k=j
        ·subst e2
         rw [if_pos rfl,show 0+(k:Int).toNat=k by omega,A6];rfl
        ·rw [if_neg e2,H7 (by omega)];exact hf k hk
     ·conv=>whnf
      refine G3 ?_
      exact next (hs.done ho (.inr h2))
    ·conv=>whnf
     refine G3 ?_
     exact next (hs.done ho (.inl (by omega)))
end Go.Proofs.YtaapofnkmpiknaaGreat
