/- Part 27 of the proof: contracts of the functions that the law reaches -/
import Derived.Test.YtbajhapmlfbelaaGreatDe26
set_option maxRecDepth 100000
set_option linter.unusedVariables false
set_option linter.unusedSimpArgs false
namespace Go.Proofs.YtbajhapmlfbelaaGreat
open Go Go.Ab
attribute [local irreducible] upd del
theorem A9V (l:List Y8) (x:Int) (hl:l.length≤100000) (st:St):S P 307 [B1 3 L7 l,eI x] st fun v st'=>v=.tuple [L7 ((K9 l x).getD default),.bool (K9 l x).isSome]∧st'=st:=by
 refine A2E ?_
 refine A7 [] C0 mixed Tryz.func307 (by rfl) rfl rfl rfl ?_;conv=>whnf
 intro b hb;conv=>whnf
 have w0:IntKind.i64.wrap ((l.length:Int) - 1)=(l.length:Int) - 1:=A8 (by omega) (by omega)
 refine ⟨[0,1,4,6],fun m vs st'=>∃ (i:Int) (f:Nat→AV) (u:Y8),-1≤i∧i<l.length∧(∀ k:Nat,i<k→k<l.length→decide ((l.getD k default).least≤x)=false)∧m=(i+1).toNat∧vs=[B1 3 L7 l,eI x,.optr 3 b 0 0,eI i]∧st'=upd st b ⟨250,3,1,f⟩∧f 0=L7 u,?_,?_⟩
 ·conv=>whnf
  exact ⟨_,(l.length:Int) - 1,_,default,by omega,by omega,fun k h1 h2=>by omega,rfl,by rw [w0],rfl,rfl⟩
 ·rintro m vs st' ⟨i,f,u,h0,hi,hno,rfl,rfl,rfl,hf⟩
  conv=>whnf
  cases h:decide (i≥0)
  ·have:=of_decide_eq_false h
   have hr:K9 l x=none:=A7g fun k hk=>hno k (by omega) hk
   conv=>whnf
   refine J7 (A0 ..) rfl (by omega) hf (by rfl) ?_;conv=>whnf
   refine E9 (A0 ..) rfl (by omega) (A5 ..) ?_;conv=>whnf
   refine ⟨by rw [hr];rfl,((F3.refl st).upd hb).over hb⟩
  ·have hi0:=of_decide_eq_true h
   conv=>whnf
   refine ⟨rfl,⟨by omega,by omega⟩,?_⟩;conv=>whnf
   refine C4 (fun h1=>?_) (fun h1=>?_)
   ·have hr:K9 l x=some (l.getD i.toNat default):=A7h (by omega) (fun k h2 h3=>hno k (by omega) h3) h1
    rw [h1];conv=>whnf
    refine ⟨rfl,⟨by omega,by omega⟩,?_⟩;conv=>whnf
    refine J7 (A0 ..) rfl (by omega) hf (by rfl) ?_;conv=>whnf
    refine E9 (A0 ..) rfl (by omega) (A5 ..) ?_;conv=>whnf
    refine ⟨by rw [hr];rfl,((F3.refl st).upd hb).over hb⟩
   ·have w:IntKind.i64.wrap (i - 1)=i - 1:=A8 (by omega) (by omega)
    rw [h1];conv=>whnf
    refine ⟨rfl,?_⟩;conv=>whnf
    refine ⟨i.toNat,by omega,i - 1,f,u,by omega,by omega,fun k h2 h3=>?_,by omega,by rw [w],rfl,hf⟩
    rcases (by omega:k=i.toNat∨i<k) with e | e
    ·rw [e];exact h1
    ·exact hno k e h3
def A1K (us:List B7) (mine offs:List Int) (closes:Bool):List B7×Int :=
 if A6 offs=0 then (us,0) else (if closes=true then closeB (D5 us mine offs offs.length) mine else D5 us mine offs offs.length,A6 offs)
theorem A2b {us:List B7} {mine offs:List Int} (h:∀ k,k<offs.length→gI offs k=0):∀ k,k≤offs.length→D5 us mine offs k=us
 | 0,_=>rfl
 | k+1,hk=>by
  unfold D5
  rw [A2b h k (by omega),h k (by omega)]
  unfold less1
  refine List.ext_getElem (by simp) fun j h1 h2=>?_
  rw [List.getElem_set]
  split
  ·rename_i e;subst e
   have e:gU us (gI mine k).toNat=us[(gI mine k).toNat]:=by unfold gU;rw [List.getD_eq_getElem?_getD,List.getElem?_eq_getElem h2];rfl
   rw [e,Int.sub_zero]
  ·rfl
theorem A2R {l:List Int} (h0:∀ x∈l,0≤x) (hs:A6 l=0):∀ k,k<l.length→gI l k=0:=fun k hk=>by
 have h1:=h0 _ (B5 hk)
 have h2:=P9 h0 (B5 hk)
 show l.getD k default=0
 omega
theorem B2M (us:List B7) (mine offs:List Int) (closes:Bool) (hu:E6 us) (hm:W8 us mine) (hml:mine.length≤1000000) (hol:offs.length≤mine.length) (ho:∀ k,k<offs.length→0≤gI offs k∧gI offs k≤(gU us (gI mine k).toNat).net) (hs:A6 offs≤1000000000000000) (st:St) :
  S P 250 [C9 us,B6 mine,B6 offs,eB closes] st fun v st'=>v=.tuple [C9 (A1K us mine offs closes).1,eI (A1K us mine offs closes).2]∧st'=st:=by
 have hul:=hu.len
 have ho0:∀ x∈offs,0≤x:=fun x hx=>by obtain ⟨k,hk,rfl⟩:=F2 hx;exact (ho k hk).1
 refine S.post (post:=fun v st'=>∃ sv,v=.tuple [sv,eI (A1K us mine offs closes).2]∧A4l st (A1K us mine offs closes).1 sv st') ?_
  (fun v st' ⟨sv,hv,h⟩=>⟨_,st,⟨rfl,rfl⟩,by rw [hv];exact B4.tuple (B4.cons h.shift (B4.keep _ _)) rfl⟩)
 refine A7 [] C0 mixed Tryz.func250 (by rfl) rfl rfl rfl ?_
 have nsum:=fun s=>B0e offs (by omega) ho0 (by omega) s
 have hS:A1K us mine offs closes=if A6 offs=0 then (us,0) else (if closes=true then closeB (D5 us mine offs offs.length) mine else D5 us mine offs offs.length,A6 offs):=rfl
 conv=>whnf
 refine apE (q:=B8v) rfl rfl rfl rfl (A6p _ _ _ _) (by show us.length * 24≤_;omega) (fun h0=>?_) (fun h0 b hb=>?_)
 ·have hus:us=[]:=List.eq_nil_of_length_eq_zero h0
  have hmi:mine.length=0:=by
   rcases Nat.eq_zero_or_pos mine.length with e | e
   ·exact e
   ·have:=(hm.rng 0 e).2;omega
  have hof:offs=[]:=List.eq_nil_of_length_eq_zero (by omega)
  have hz:A6 offs=0:=by rw [hof];rfl
  rw [if_pos hz] at hS;conv=>whnf
  refine B3 (nsum _) ?_
  rw [hz];conv=>whnf
  exact ⟨_,by rw [hS];rfl,by rw [hS];exact ⟨F3.refl _,.inl ⟨hus,rfl⟩⟩⟩
 ·conv=>whnf
  refine B3 (nsum _) ?_;conv=>whnf
  cases hz:(A6 offs==0)
  case true =>
   rw [if_pos (eq_of_beq hz)] at hS;conv=>whnf
   exact ⟨_,by rw [hS];rfl,by rw [hS];exact ⟨(F3.refl _).upd hb,.inr ⟨b,hb,rfl,_,A0 ..,fun k hk=>rfl⟩⟩⟩
  rw [if_neg (ne_of_beq_false hz)] at hS;conv=>whnf
  refine lp offs.length [1,2,3,10,11] (fun i vs s=>vs=[B6 mine,B6 offs,eB closes,.own 3 b 0 us.length,eI i]∧∃ f,s=upd st b ⟨152,3,us.length,f⟩∧∀ j,j<us.length→f j=V8 (gU (D5 us mine offs i) j)) ?_ ?_
  ·conv=>whnf
   exact ⟨rfl,_,rfl,fun j hj=>rfl⟩
  ·rintro i vs s hi ⟨rfl,f,rfl,hf⟩
   conv=>whnf
   cases hd:decide ((i:Int)<(offs.length:Int))
   ·obtain rfl:=D7 hd hi
    have hlt:=N9 us mine offs offs.length
    conv=>whnf
    refine lp mine.length [1,2,3,10,12] (fun i vs s=>(closes=false→i=0)∧vs=[B6 mine,B6 offs,eB closes,.own 3 b 0 us.length,eI i]∧∃ f,s=upd st b ⟨152,3,us.length,f⟩∧∀ j,j<us.length→f j=V8 (gU (closeB (D5 us mine offs offs.length) (mine.take i)) j)) ?_ ?_
    ·conv=>whnf
     exact ⟨fun _=>rfl,rfl,_,rfl,hf⟩
    ·clear hf
     rintro i vs s hi ⟨hci,rfl,f,rfl,hf⟩
     conv=>whnf
     have hend:(i=mine.length∨closes=false)→∀ j,j<us.length→f j=V8 (gU (A1K us mine offs closes).1 j):=fun hE=>by
      intro j hj
      have h7:=hf j hj
      have e1:(A1K us mine offs closes).1=if closes=true then closeB (D5 us mine offs offs.length) mine else D5 us mine offs offs.length:=by rw [hS]
      rw [e1]
      cases hc:closes
      ·rw [hci hc,List.take_zero] at h7;rw [if_neg (by simp)];exact h7
      ·rcases hE with hE | hE
       ·rw [hE,List.take_length] at h7;rw [if_pos rfl];exact h7
       ·rw [hE] at hc;cases hc
     have hlen:(A1K us mine offs closes).1.length=us.length:=by
      rw [hS];show (if closes=true then _ else _:List B7).length=_
      split
      ·rw [A1e,hlt]
      ·exact hlt
     cases hd:decide ((i:Int)<(mine.length:Int))
     case' false =>
      have hE:=hend (.inl (D7 hd hi))
      conv=>whnf
     case' true =>
      have hi':=H0 hd
      conv=>whnf
      cases hc:closes
      case' false =>
       have hE:=hend (.inr hc)
       rw [hc] at hS hlen hE;conv=>whnf
      case' true =>
       have hr:=hm.rng i hi'
       conv=>whnf
       refine ⟨rfl,⟨by omega,by omega⟩,?_⟩;conv=>whnf
       refine ⟨rfl,⟨by show 0≤gI mine i;omega,by show gI mine i<(us.length:Int);omega⟩,?_⟩;conv=>whnf
       refine J7 (A0 ..) rfl (by show 0+(gI mine i).toNat<_;omega) (v:=V8 (gU (closeB (D5 us mine offs offs.length) (mine.take i)) (gI mine i).toNat)) (by rw [Nat.zero_add];exact hf _ hr.2) (by rfl) ?_
       rw [B8];conv=>whnf
       refine ⟨rfl,?_⟩;conv=>whnf
       have e:closeB (D5 us mine offs offs.length) (mine.take (i+1))=close1 (closeB (D5 us mine offs offs.length) (mine.take i)) (gI mine i).toNat:=P1 hi' _ _
       refine ⟨mine.length - (i+1),by omega,i+1,by omega,rfl,fun e=>Bool.noConfusion e,by rw [C2 (by omega)],_,rfl,fun j hj=>?_⟩
       rw [e,Nat.zero_add,show (mine.getD (i:Int).toNat default).toNat=(gI mine i).toNat from rfl]
       unfold close1
       rw [A4C (by rw [A1e,hlt];exact hr.2)]
       by_cases hj2:j=(gI mine i).toNat
       ·rw [if_pos hj2,hj2,A5];rfl
       ·rw [if_neg hj2,F4 hj2];exact hf j hj
     all_goals
      refine B3 (nsum _) ?_;conv=>whnf
      refine ⟨.own 3 b 0 us.length,by rw [hS];rfl,(F3.refl st).upd hb,.inr ⟨b,hb,by rw [hlen],f,by rw [hlen];exact A0 ..,fun k hk=>?_⟩⟩
      rw [hlen] at hk
      exact hE k hk
   ·have hi':=H0 hd
    have hr:=hm.rng i (by omega)
    have hat:=A2Q (offs:=offs) hm (show i<mine.length by omega)
    have hx:=ho i hi'
    have hnet1:(gU us (gI mine i).toNat).net≤10000000000000:=hu.le (B5 hr.2)
    have hfm:f (0+(gI mine i).toNat)=V8 (gU (D5 us mine offs i) (gI mine i).toNat):=by rw [Nat.zero_add];exact hf _ hr.2
    conv=>whnf
    refine ⟨[20],[],List.range 21,by kernel_rfl,?_⟩;conv=>whnf
    refine ⟨rfl,⟨by omega,by omega⟩,?_⟩;conv=>whnf
    refine ⟨rfl,⟨by omega,by omega⟩,?_⟩;conv=>whnf
    refine ⟨rfl,⟨by show 0≤gI mine i;omega,by show gI mine i<(us.length:Int);omega⟩,?_⟩;conv=>whnf
    refine E9 (A0 ..) rfl (by show 0+(gI mine i).toNat<_;omega) hfm ?_;conv=>whnf
    refine ⟨rfl,⟨by omega,by omega⟩,?_⟩;conv=>whnf
    refine ⟨rfl,⟨by show 0≤gI mine i;omega,by show gI mine i<(us.length:Int);omega⟩,?_⟩;conv=>whnf
    refine J7 (A0 ..) rfl (by show 0+(gI mine i).toNat<_;omega) hfm (by rfl) ?_
    rw [B8];conv=>whnf
    refine ⟨rfl,?_⟩;conv=>whnf
    have w:IntKind.i64.wrap ((gU (D5 us mine offs i) (gI mine i).toNat).net - gI offs i)=(gU (D5 us mine offs i) (gI mine i).toNat).net - gI offs i:=by
     rw [hat];exact A8 (by omega) (by omega)
    refine nx hi' ⟨by rw [C2 (by omega)],_,rfl,fun j hj=>?_⟩
    show _=V8 (gU (less1 (D5 us mine offs i) (gI mine i).toNat (gI offs i)) j)
    unfold less1
    rw [A4C (by rw [N9];exact hr.2)]
    by_cases hj2:j=(gI mine i).toNat
    ·rw [if_pos hj2,hj2,←w]
     show G6 f (0+(gI mine i).toNat) _ _=_
     rw [Nat.zero_add,A5];rfl
    ·rw [if_neg hj2]
     show G6 f (0+(gI mine i).toNat) _ _=_
     rw [Nat.zero_add,F4 hj2];exact hf j hj
def J5 (p:B2) (x:Int):Y8:=(K9 p.tiers x).getD default
def T8 (p:B2) (nets:List Int):List Int :=
 if p.kind=1 then nets.map fun x=>I1 x p.rate else if p.kind=2 then nets.map fun x=>O2 x 0 p.amount
 else if p.kind=6 then nets.map fun x=>O2 x (J5 p nets.length).rate (J5 p nets.length).amount
 else D8 (O2 (A6 nets) (J5 p (A6 nets)).rate (J5 p (A6 nets)).amount) nets
theorem A7I {x:Int} (h0:0≤x) (h1:x≤100000000000000):I1 x 0=0:=by
 unfold I1
 rw [if_pos ⟨by omega,by omega⟩]
 unfold A1O
 rw [if_neg (by rw [(A0u x).2 ⟨h0,h1⟩];decide),Int.mul_zero]
 rfl
theorem A9v {x rate amount:Int}:(if I1 x rate+amount<x then I1 x rate+amount else x)=O2 x rate amount:=by
 unfold O2;split<;>split<;>omega
theorem C2T (p:B2) (nets:List Int) (hp:A4p p) (hl:nets.length≤100000) (h0:∀ x∈nets,0≤x) (hs:A6 nets≤10000000000000) (st:St) :
  S P 251 [B9 p,B6 nets] st fun v st'=>v=B6 (T8 p nets)∧st'=st:=by
 refine S.post (post:=fun v st'=>(∃ st1,F3 st st1∧G4 2 1 eI (T8 p nets) st1 v st')∨(v=B6 (T8 p nets)∧F3 st st')) ?_
  (fun v st' h=>⟨_,st,⟨rfl,rfl⟩,by
   rcases h with ⟨st1,h1,h2⟩ | ⟨rfl,h1⟩
   ·exact h2.shift.trans (h1.shift _)
   ·exact h1.shift _⟩)
 have hx1:∀ x∈nets,x≤10000000000000:=fun x hx=>Int.le_trans (P9 h0 hx) hs
 have hsn:=D0 h0
 refine A7 [2] C0 mixed Tryz.func251 (by rfl) rfl rfl rfl ?_;conv=>whnf
 rcases hp.kind with hk | hk | hk | hk
 ·have hL:T8 p nets=nets.map fun x=>I1 x p.rate:=by unfold T8;rw [if_pos hk]
  rw [show (p.kind==1)=true from by rw [hk];rfl,hL];conv=>whnf
  refine lp nets.length [1,2,5,6] (fun i vs s=>∃ sv,vs=[B6 nets,.fptr (B9 p) 0,sv,eI i]∧G4 2 1 eI ((nets.take i).map fun x=>I1 x p.rate) st sv s) ?_ ?_
  ·conv=>whnf
   exact ⟨.emp,rfl,G4.start _ _ _ _⟩
  ·rintro i vs s hi ⟨sv,rfl,hc⟩
   conv=>whnf
   cases hd:decide ((i:Int)<(nets.length:Int))
   ·obtain rfl:=D7 hd hi
    rw [List.take_length] at hc;conv=>whnf
    exact .inl ⟨st,F3.refl _,hc⟩
   ·have hi':=H0 hd
    conv=>whnf
    refine ⟨[8,9],[],List.range 11,by kernel_rfl,?_⟩;conv=>whnf
    refine ⟨rfl,⟨by omega,by omega⟩,?_⟩;conv=>whnf
    refine ⟨_,D2 (A7i (nets.getD (i:Int).toNat default) p.rate _),?_⟩;conv=>whnf
    refine G4.app (q:=r2) (y:=I1 (nets.getD (i:Int).toNat default) p.rate) rfl rfl rfl rfl rfl rfl (by show (_+1) * 8≤140737488355328;rw [List.length_map,List.length_take];omega) hc (fun sv' s' hc'=>?_);conv=>whnf
    refine ⟨rfl,?_⟩;conv=>whnf
    exact nx hi' ⟨sv',by rw [C2 (by omega)],by rw [A2B hi'];exact hc'⟩
 ·have hL:T8 p nets=nets.map fun x=>O2 x 0 p.amount:=by unfold T8;rw [if_neg (by omega),if_pos hk]
  have ha:=hp.amount hk
  rw [show (p.kind==1)=false from by rw [hk];rfl,hL];conv=>whnf
  rw [show (p.kind==2)=true from by rw [hk];rfl];conv=>whnf
  refine lp nets.length [1,2,5,7] (fun i vs s=>∃ sv,vs=[B6 nets,.fptr (B9 p) 0,sv,eI i]∧G4 2 1 eI ((nets.take i).map fun x=>O2 x 0 p.amount) st sv s) ?_ ?_
  ·conv=>whnf
   exact ⟨.emp,rfl,G4.start _ _ _ _⟩
  ·rintro i vs s hi ⟨sv,rfl,hc⟩
   conv=>whnf
   cases hd:decide ((i:Int)<(nets.length:Int))
   ·obtain rfl:=D7 hd hi
    rw [List.take_length] at hc;conv=>whnf
    exact .inl ⟨st,F3.refl _,hc⟩
   ·have hi':=H0 hd
    have hz:I1 (nets.getD (i:Int).toNat default) 0=0:=A7I (h0 _ (B5 hi')) (Int.le_trans (hx1 _ (B5 hi')) (by decide))
    have hm:=A9v (x:=nets.getD (i:Int).toNat default) (rate:=0) (amount:=p.amount)
    rw [hz,Int.zero_add] at hm;conv=>whnf
    refine ⟨[8,9],[],List.range 11,by kernel_rfl,?_⟩;conv=>whnf
    refine ⟨rfl,⟨by omega,by omega⟩,?_⟩;conv=>whnf
    refine G4.app (q:=r2) (y:=O2 (nets.getD (i:Int).toNat default) 0 p.amount) rfl rfl rfl rfl rfl (by rw [←hm];rfl) (by show (_+1) * 8≤140737488355328;rw [List.length_map,List.length_take];omega) hc (fun sv' s' hc'=>?_);conv=>whnf
    refine ⟨rfl,?_⟩;conv=>whnf
    exact nx hi' ⟨sv',by rw [C2 (by omega)],by rw [A2B hi'];exact hc'⟩
 ·have hL:T8 p nets=D8 (O2 (A6 nets) (J5 p (A6 nets)).rate (J5 p (A6 nets)).amount) nets:=by unfold T8;rw [if_neg (by omega),if_neg (by omega),if_neg (by omega)]
  have ht:=hp.tiers (.inl hk)
  have hok:0≤(J5 p (A6 nets)).amount∧(J5 p (A6 nets)).amount≤10000000000000:=Y1 ht (A6 nets)
  have hob:0≤O2 (A6 nets) (J5 p (A6 nets)).rate (J5 p (A6 nets)).amount∧O2 (A6 nets) (J5 p (A6 nets)).rate (J5 p (A6 nets)).amount≤A6 nets:=Y0 hsn hok.1
  have hW:P5 (O2 (A6 nets) (J5 p (A6 nets)).rate (J5 p (A6 nets)).amount) nets:=⟨hob.1,by omega,hl,h0,by omega,fun e=>by omega⟩
  have hb:=Q4 (A6 nets) (J5 p (A6 nets)).rate
  have w:IntKind.i64.wrap (I1 (A6 nets) (J5 p (A6 nets)).rate+(J5 p (A6 nets)).amount)=I1 (A6 nets) (J5 p (A6 nets)).rate+(J5 p (A6 nets)).amount:=A8 (by omega) (by omega)
  rw [show (p.kind==1)=false from by rw [hk];rfl,hL];conv=>whnf
  rw [show (p.kind==2)=false from by rw [hk];rfl];conv=>whnf
  rw [show (p.kind==6)=false from by rw [hk];rfl];conv=>whnf
  rw [show (p.kind==5)=true from by rw [hk];rfl];conv=>whnf
  refine B3 (B0e nets (by omega) h0 (by omega) _) ?_;conv=>whnf
  refine B3 (A9V p.tiers (A6 nets) (by have:=ht.1;omega) _) ?_;conv=>whnf
  intro b hbn;conv=>whnf
  refine J7 (A0 ..) rfl (by omega) rfl (by rfl) ?_;conv=>whnf
  refine ⟨[],[],List.range 15,by kernel_rfl,?_⟩;conv=>whnf
  refine E9 (A0 ..) rfl (by omega) (v:=L7 (J5 p (A6 nets))) (by rw [A5];rfl) ?_;conv=>whnf
  refine ⟨_,D2 (A7i (A6 nets) (J5 p (A6 nets)).rate _),?_⟩;conv=>whnf
  refine E9 (A0 ..) rfl (by omega) (v:=L7 (J5 p (A6 nets))) (by rw [A5];rfl) ?_;conv=>whnf
  rw [w,A9v]
  refine ⟨_,D2 (B0b _ nets hW _),?_⟩;conv=>whnf
  exact .inr ⟨rfl,((F3.refl st).upd hbn).over hbn⟩
 ·have hL:T8 p nets=nets.map fun x=>O2 x (J5 p nets.length).rate (J5 p nets.length).amount:=by unfold T8;rw [if_neg (by omega),if_neg (by omega),if_pos hk]
  have ht:=hp.tiers (.inr hk)
  have hok:0≤(J5 p nets.length).amount∧(J5 p nets.length).amount≤10000000000000:=Y1 ht nets.length
  rw [show (p.kind==1)=false from by rw [hk];rfl,hL];conv=>whnf
  rw [show (p.kind==2)=false from by rw [hk];rfl];conv=>whnf
  rw [show (p.kind==6)=true from by rw [hk];rfl];conv=>whnf
  refine B3 (A9V p.tiers nets.length (by have:=ht.1;omega) _) ?_;conv=>whnf
  intro b hbn;conv=>whnf
  refine J7 (A0 ..) rfl (by omega) rfl (by rfl) ?_
  rw [B8];conv=>whnf
  generalize hst1:upd st b _=st1
  obtain ⟨f1,hs1,hf1⟩:∃ f,st1 b=some ⟨250,3,1,f⟩∧f 0=L7 (J5 p nets.length):=⟨_,by rw [←hst1];exact A0 ..,by rw [A5];rfl⟩
  have hsup:F3 st st1:=by rw [←hst1];exact (F3.refl st).upd hbn
  clear hst1
  refine lp nets.length [1,5,8,10] (fun i vs s=>∃ sv,vs=[B6 nets,sv,.optr 3 b 0 0,eI i]∧G4 2 1 eI ((nets.take i).map fun x=>O2 x (J5 p nets.length).rate (J5 p nets.length).amount) st1 sv s) ?_ ?_
  ·conv=>whnf
   exact ⟨.emp,rfl,G4.start _ _ _ _⟩
  ·rintro i vs s hi ⟨sv,rfl,hc⟩
   have hb2:=hc.sup b _ hs1
   conv=>whnf
   cases hd:decide ((i:Int)<(nets.length:Int))
   ·obtain rfl:=D7 hd hi
    rw [List.take_length] at hc;conv=>whnf
    exact .inl ⟨st1,hsup,hc⟩
   ·have hi':=H0 hd
    have hb:=Q4 (nets.getD (i:Int).toNat default) (J5 p nets.length).rate
    have w:IntKind.i64.wrap (I1 (nets.getD (i:Int).toNat default) (J5 p nets.length).rate+(J5 p nets.length).amount)=I1 (nets.getD (i:Int).toNat default) (J5 p nets.length).rate+(J5 p nets.length).amount:=A8 (by omega) (by omega)
    have hm:=A9v (x:=nets.getD (i:Int).toNat default) (rate:=(J5 p nets.length).rate) (amount:=(J5 p nets.length).amount)
    rw [←w] at hm;conv=>whnf
    refine ⟨[16,17],[],List.range 19,by kernel_rfl,?_⟩;conv=>whnf
    refine ⟨rfl,⟨by omega,by omega⟩,?_⟩;conv=>whnf
    refine ⟨rfl,⟨by omega,by omega⟩,?_⟩;conv=>whnf
    refine E9 hb2 rfl (by omega) hf1 ?_;conv=>whnf
    refine ⟨_,D2 (A7i (nets.getD (i:Int).toNat default) (J5 p nets.length).rate _),?_⟩;conv=>whnf
    refine E9 hb2 rfl (by omega) hf1 ?_;conv=>whnf
    refine G4.app (q:=r2) (y:=O2 (nets.getD (i:Int).toNat default) (J5 p nets.length).rate (J5 p nets.length).amount) rfl rfl rfl rfl rfl (by rw [←hm];rfl) (by show (_+1) * 8≤140737488355328;rw [List.length_map,List.length_take];omega) hc (fun sv' s' hc'=>?_);conv=>whnf
    refine ⟨rfl,?_⟩;conv=>whnf
    exact nx hi' ⟨sv',by rw [C2 (by omega)],by rw [A2B hi'];exact hc'⟩
theorem C1u {α : Type} (l:List α):A6 (l.map fun _=>(0:Int))=0:=by
 induction l with
 | nil=>rfl
 | cons x l ih=>rw [List.map_cons,show (0:Int)::l.map (fun _=>(0:Int))=[0]++l.map (fun _=>(0:Int)) from rfl,G5,ih];rfl
theorem C0x {p:B2} (hp:A4p p) {nets:List Int} (h0:∀ x∈nets,0≤x) (hs:A6 nets≤10000000000000) (hl:nets.length≤100000) :
  T8 p nets=L5 p nets∨(L5 p nets=[]∧A6 (T8 p nets)=0∧(T8 p nets).length=nets.length∧∀ k,k<(T8 p nets).length→gI (T8 p nets) k=0):=by
 have hx1:∀ x∈nets,x≤10000000000000:=fun x hx=>Int.le_trans (P9 h0 hx) hs
 have ok:=A0U hp.right
 rcases hp.kind with hk | hk | hk | hk
 ·refine .inl ?_
  unfold T8 L5 B4d
  rw [if_pos hk,if_pos hk]
  refine List.map_congr_left fun x hx=>?_
  have hr:1≤p.rate∧p.rate≤10000:=by
   have:=hp.right
   unfold G2 A4K A7c at this
   rw [if_pos hk] at this
   simp only [Bool.and_eq_true,L4] at this
   exact this.2
  have:=A3V (h0 x hx) (show 0≤p.rate by omega) hr.2
  unfold O2
  rw [Int.add_zero];split<;>omega
 ·refine .inl ?_
  unfold T8 L5 B4c
  rw [if_neg (by omega),if_pos hk,if_neg (by omega),if_pos hk]
 ·unfold T8 L5 A4f
  rw [if_neg (by omega),if_neg (by omega),if_neg (by omega),if_neg (by omega),if_neg (by omega),if_pos hk]
  cases hr:K9 p.tiers (A6 nets) with
  | some t=>refine .inl ?_;unfold J5;rw [hr];rfl
  | none =>
   have hsn:=D0 h0
   have e:O2 (A6 nets) (J5 p (A6 nets)).rate (J5 p (A6 nets)).amount=0:=by
    unfold J5;rw [hr]
    show O2 (A6 nets) 0 0=0
    unfold O2
    rw [A7I hsn (by omega),Int.add_zero];split<;>omega
   rw [e]
   have hW:P5 0 nets:=⟨by omega,by omega,hl,h0,by omega,fun _=>rfl⟩
   obtain ⟨a,b,c⟩:=X8 hW
   exact .inr ⟨rfl,a,b,A2R c a⟩
 ·unfold T8 L5 A4e
  rw [if_neg (by omega),if_neg (by omega),if_pos hk,if_neg (by omega),if_neg (by omega),if_neg (by omega)]
  cases hr:K9 p.tiers nets.length with
  | some t=>refine .inl ?_;unfold J5;rw [hr];rfl
  | none =>
   have e:(nets.map fun x=>O2 x (J5 p nets.length).rate (J5 p nets.length).amount)=nets.map fun _=>(0:Int):=by
    refine List.map_congr_left fun x hx=>?_
    unfold J5;rw [hr]
    show O2 x 0 0=0
    unfold O2
    rw [A7I (h0 x hx) (Int.le_trans (hx1 x hx) (by decide)),Int.add_zero]
    have:=h0 x hx
    split<;>omega
   rw [e]
   exact .inr ⟨rfl,C1u nets,by simp,fun k hk=>by rw [List.length_map] at hk;exact E2 (fun _:Int=>(0:Int)) nets hk⟩
theorem A3P (us:List B7) (mine:List Int):(E8 us mine).length=mine.length:=List.length_map ..
theorem A9C {us:List B7} (hu:E6 us) {mine:List Int} (hm:K7 us mine):(∀ x∈E8 us mine,0≤x)∧A6 (E8 us mine)≤10000000000000:=by
 have hwl:=B0t hu hm.places
 have hus:=hu.sum
 exact ⟨fun x hx=>by obtain ⟨i,hi,rfl⟩:=List.mem_map.1 hx;exact hu.at0 _,by rw [A6Z];omega⟩
theorem B3W {p:B2} {us:List B7} {mine:List Int} (h0:∀ x∈L5 p (E8 us mine),0≤x):A1K us mine (L5 p (E8 us mine)) p.closes=W9 p us mine:=by
 have hn:=D0 h0
 unfold A1K W9
 by_cases hz:A6 (L5 p (E8 us mine))=0
 ·rw [if_pos hz]
  simp only
  rw [hz,A2b (A2R h0 hz) _ (Nat.le_refl _)];rfl
 ·rw [if_neg hz]
  simp only
  rw [decide_eq_true (show A6 (L5 p (E8 us mine))>0 by omega),Bool.true_and]
theorem C0I (p:B2) (us:List B7) (mine:List Int) (hp:A4p p) (hps:A0I p) (hu:E6 us) (hm:K7 us mine) (st:St) :
  S P 167 [B9 p,C9 us,B6 mine] st fun v st'=>v=.tuple [C9 (W9 p us mine).1,eI (W9 p us mine).2]∧st'=st:=by
 have hml:=hm.len
 have hul:=hu.len
 obtain ⟨hn0,hns⟩:=A9C hu hm
 have hnl:=A3P us mine
 have hob:=A3Q hp hn0 hns (by omega)
 obtain ⟨ob1,ob2,ob3⟩:=hob
 have hle:=B7i hp hn0 hns (by omega)
 have hcz:=C0x hp hn0 hns (by omega)
 have hlen:(T8 p (E8 us mine)).length≤mine.length:=by
  rcases hcz with e | ⟨_,_,e,_⟩
  ·rw [e];omega
  ·omega
 have hc:∀ k,k<(T8 p (E8 us mine)).length→0≤gI (T8 p (E8 us mine)) k∧gI (T8 p (E8 us mine)) k≤(gU us (gI mine k).toNat).net:=fun k hk=>by
  rcases hcz with e | ⟨_,_,_,e⟩
  ·rw [e] at hk ⊢
   have h1:=hle k hk
   rw [show gI (E8 us mine) k=(gU us (gI mine k).toNat).net from E2 (fun i:Int=>(gU us i.toNat).net) mine (by omega)] at h1
   exact ⟨ob3 _ (B5 hk),h1⟩
  ·rw [e k hk];exact ⟨Int.le_refl _,hu.at0 _⟩
 have hsum:A6 (T8 p (E8 us mine))≤1000000000000000:=by
  rcases hcz with e | ⟨_,e,_⟩<;>rw [e]<;>omega
 have hE:A1K us mine (T8 p (E8 us mine)) p.closes=W9 p us mine:=by
  rcases hcz with e | ⟨e1,e2,_⟩
  ·rw [e];exact B3W ob3
  ·unfold A1K W9
   rw [if_pos e2,e1];rfl
 rw [←hE]
 refine A7 [3] C0 mixed Tryz.func167 (by rfl) rfl rfl rfl ?_;conv=>whnf
 refine B3 (A6m p hps hp.right st) ?_;conv=>whnf
 refine B3 (B5Z us mine hu hm st) ?_;conv=>whnf
 refine ⟨[],[],List.range 14,by kernel_rfl,?_⟩;conv=>whnf
 refine ⟨_,D2 (A5z us mine (by omega) hm.rng st),?_⟩;conv=>whnf
 refine ⟨_,D2 (C2T p (E8 us mine) hp (by omega) hn0 hns st),?_⟩;conv=>whnf
 refine ⟨_,D2 (B2M us mine (T8 p (E8 us mine)) p.closes hu hm.places (by omega) hlen hc hsum st),?_⟩;conv=>whnf
 exact ⟨rfl,rfl⟩
def B1d (p:B2) (us:List B7) (D:List Int) (m i:Nat):Int:=if ((i % m:Nat):Int)≥p.buy then I1 (gU us (gI D i).toNat).net p.rate else 0
def H5 (p:B2) (us:List B7) (D:List Int) (m n:Nat):List Int:=(List.range n).map (B1d p us D m)
theorem B5K {us:List B7} {i:Nat} (h:i<us.length):less1 us i 0=us:=by
 unfold less1
 refine List.ext_getElem (by simp) fun j h1 h2=>?_
 rw [List.getElem_set]
 split
 ·rename_i e;subst e
  have e:gU us i=us[i]:=by unfold gU;rw [List.getD_eq_getElem?_getD,List.getElem?_eq_getElem h];rfl
  rw [e,Int.sub_zero]
 ·rfl
theorem C2p (d:List QE) {k:Nat} (h:k<d.length):gI (d.map (·.2)) k=(at_ d k).2:=E2 (fun e:QE=>e.2) d h
theorem B4D {p:B2} {us:List B7} {d:List QE} {m:Nat} (hP:W8 us (d.map (·.2))) {n:Nat} (hn:n≤d.length) {s:Nat} (hs:s % m=0) (hsm:s+m≤n):∀ k,k≤m →
  A0j p (D5 us (d.map (·.2)) (H5 p us (d.map (·.2)) m n) s) (d.drop s) k=(D5 us (d.map (·.2)) (H5 p us (d.map (·.2)) m n) (s+k),A6 ((H5 p us (d.map (·.2)) m n).take (s+k)) - A6 ((H5 p us (d.map (·.2)) m n).take s))
 | 0,_=>by unfold A0j;rw [Nat.add_zero,Int.sub_self]
 | k+1,hk=>by
  have ih:=B4D (p:=p) hP hn hs hsm k (by omega)
  have hln:(H5 p us (d.map (·.2)) m n).length=n:=by unfold H5;simp
  have hml:(d.map (·.2)).length=d.length:=List.length_map ..
  have hrg:=hP.rng (s+k) (by omega)
  have hat:=A2Q (offs:=H5 p us (d.map (·.2)) m n) hP (show s+k<(d.map (·.2)).length by omega)
  have he:gI (H5 p us (d.map (·.2)) m n) (s+k)=if (k:Int)<p.buy then 0 else I1 (gU us (gI (d.map (·.2)) (s+k)).toNat).net p.rate:=by
   unfold H5
   rw [J9 _ (by omega)]
   unfold B1d
   rw [show (s+k) % m=k by rw [Nat.add_mod,hs,Nat.zero_add,Nat.mod_mod,Nat.mod_eq_of_lt (by omega)]]
   split<;>split<;>first | rfl | omega
  have hdr:at_ (d.drop s) k=at_ d (s+k):=by unfold at_;rw [List.getD_eq_getElem?_getD,List.getD_eq_getElem?_getD,List.getElem?_drop]
  have hts:=N7 (l:=H5 p us (d.map (·.2)) m n) (i:=s+k) (by omega)
  rw [←Nat.add_assoc]
  unfold A0j
  rw [ih,hts,he,hdr,←C2p d (by omega)]
  split
  ·rw [Int.add_zero]
   show _=(less1 _ _ _,_)
   rw [he,if_pos (by assumption),B5K (by rw [N9];exact hrg.2)]
  ·show _=(less1 _ _ _,_)
   rw [he,if_neg (by assumption),hat]
   congr 1
   show _ - _+_=_
   omega
theorem B6L {p:B2} {us:List B7} {d:List QE} {m:Nat} (hP:W8 us (d.map (·.2))) {q:Nat} (hn:q * m≤d.length):∀ r,r≤q →
  bgF p us d m r=(D5 us (d.map (·.2)) (H5 p us (d.map (·.2)) m (q * m)) (r * m),A6 ((H5 p us (d.map (·.2)) m (q * m)).take (r * m)))
 | 0,_=>by rw [Nat.zero_mul];rfl
 | r+1,hr=>by
  have ih:=B6L (p:=p) hP hn r (by omega)
  have e:(r+1) * m=r * m+m:=Nat.succ_mul r m
  have h1:r * m+m≤q * m:=by rw [←e];exact Nat.mul_le_mul_right m hr
  have h2:=B4D (p:=p) hP hn (s:=r * m) (Nat.mul_mod_left ..) h1 m (Nat.le_refl _)
  unfold bgF
  rw [ih]
  simp only
  rw [h2,e]
  congr 1
  show _+(_ - _)=_
  omega
theorem B3H {us:List B7} {mine:List Int} (hm:K7 us mine):W8 us ((E4 us mine).map (·.2)):=by
 have hp:((E4 us mine).map (·.2)).Perm mine:=by
  refine ((A2o us mine).map _).trans (List.Perm.of_eq ?_)
  rw [List.map_map]
  exact (List.map_congr_left fun x _=>rfl).trans (List.map_id mine)
 have hnd:mine.Pairwise (·≠·):=by
  rw [List.pairwise_iff_getElem]
  intro i j hi hj hij
  have:=hm.lt i j hij hj
  simp only [gI,List.getD_eq_getElem?_getD,List.getElem?_eq_getElem hi,List.getElem?_eq_getElem hj,Option.getD_some] at this
  omega
 have hr:∀ k,k<((E4 us mine).map (·.2)).length→0≤gI ((E4 us mine).map (·.2)) k∧(gI ((E4 us mine).map (·.2)) k).toNat<us.length:=fun k hk=>A7d (P:=fun x=>0≤x∧x.toNat<us.length) hp (fun x hx=>by obtain ⟨j,hj,rfl⟩:=F2 hx;exact hm.rng j hj) hk
 refine ⟨hr,fun i k hik hk=>?_⟩
 have h1:=(hp.symm.pairwise hnd (fun h=>h.symm))
 have:=B1w h1 hik hk
 have:=hr i (by omega)
 have:=hr k hk
 omega
theorem W8.take {us:List B7} {l:List Int} (h:W8 us l) (n:Nat):W8 us (l.take n):=by
 have e:∀ k,k<(l.take n).length→gI (l.take n) k=gI l k∧k<l.length:=fun k hk=>by
  rw [List.length_take] at hk
  unfold gI
  rw [List.getD_eq_getElem?_getD,List.getD_eq_getElem?_getD,List.getElem?_take_of_lt (by omega)]
  exact ⟨rfl,by omega⟩
 exact ⟨fun k hk=>by rw [(e k hk).1];exact h.rng k (e k hk).2,fun i k hik hk=>by rw [(e k hk).1,(e i (by omega)).1];exact h.ne i k hik (e k hk).2⟩
theorem A7r {us:List B7} {l offs:List Int} {n:Nat}:∀ k,k≤n→D5 us (l.take n) offs k=D5 us l offs k
 | 0,_=>rfl
 | k+1,hk=>by
  unfold D5
  rw [A7r k (by omega)]
  congr 1
  unfold gI;rw [List.getD_eq_getElem?_getD,List.getD_eq_getElem?_getD,List.getElem?_take_of_lt (by omega)]
set_option maxHeartbeats 400000 in
theorem B8x (p:B2) (us:List B7) (mine:List Int) (hps:A0I p) (hright:G2 p=true) (hk:p.kind=3) (hp:A8P p) (hu:E6 us) (hm:K7 us mine) (st:St) :
  S P 166 [B9 p,C9 us,B6 mine] st fun v st'=>v=.tuple [C9 (S9 p us mine).1,eI (S9 p us mine).2]∧st'=st:=by
 have hB:=hp.buy
 have hG:=hp.get
 have hml:=hm.len
 have hul:=hu.len
 have hdl:((E4 us mine).map (·.2)).length=mine.length:=by rw [List.length_map,A1f]
 have hP:=B3H hm
 obtain ⟨m,hm1⟩:∃ m:Nat,(m:Int)=p.buy+p.get:=⟨(p.buy+p.get).toNat,by omega⟩
 have w1:IntKind.i64.wrap (p.buy+p.get)=(m:Int):=by rw [A8 (by omega) (by omega)];omega
 have hq0:mine.length / m * m≤mine.length:=Nat.div_mul_le_self ..
 have hbg:=B6L (p:=p) (m:=m) hP (q:=mine.length / m) (by rw [A1f];exact hq0) _ (Nat.le_refl _)
 have hout:S9 p us mine=(if (decide (A6 (H5 p us ((E4 us mine).map (·.2)) m (mine.length / m * m))>0)&&p.closes)=true then closeB (D5 us ((E4 us mine).map (·.2)) (H5 p us ((E4 us mine).map (·.2)) m (mine.length / m * m)) (mine.length / m * m)) (((E4 us mine).map (·.2)).take (mine.length / m * m)) else D5 us ((E4 us mine).map (·.2)) (H5 p us ((E4 us mine).map (·.2)) m (mine.length / m * m)) (mine.length / m * m),A6 (H5 p us ((E4 us mine).map (·.2)) m (mine.length / m * m))):=by
  have hl:(H5 p us ((E4 us mine).map (·.2)) m (mine.length / m * m)).length=mine.length / m * m:=by unfold H5;simp
  unfold S9
  simp only
  rw [show (p.buy+p.get).toNat=m by omega,A1f,hbg]
  simp only
  rw [show (H5 p us ((E4 us mine).map (·.2)) m (mine.length / m * m)).take (mine.length / m * m)=H5 p us ((E4 us mine).map (·.2)) m (mine.length / m * m) from List.take_of_length_le (by omega),List.map_take]
 refine A7 [3] C0 mixed Tryz.func166 (by rfl) rfl rfl rfl ?_;conv=>whnf
 refine B3 (A6m p hps hright st) ?_;conv=>whnf
 rw [show (p.kind != 3)=false from by rw [hk];rfl];conv=>whnf
 refine B3 (B5Z us mine hu hm st) ?_;conv=>whnf
 refine B3 (B7m us mine hu hm st) ?_
 clear hbg
 generalize (E4 us mine).map (·.2)=D at *
 conv=>whnf
 rw [w1,decide_eq_false (show ¬(m:Int)=0 by omega)];conv=>whnf
 have hN:IntKind.i64.wrap ((D.length:Int) - (D.length:Int).tmod (m:Int))=((mine.length / m * m:Nat):Int):=by
  rw [hdl,Int.tmod_eq_emod_of_nonneg (by omega),←Int.natCast_emod]
  have:=Nat.div_add_mod mine.length m
  rw [Nat.mul_comm] at this
  rw [A8 (by omega) (by omega)];omega
 rw [hN]
 generalize hNe:mine.length / m * m=N at *
 refine ⟨rfl,⟨by omega,by omega,by omega⟩,?_⟩;conv=>whnf
 refine lp N [1,3,8,9,10,11] (fun i vs s=>∃ sv,vs=[C9 us,.fptr (B9 p) 0,.arr 1 N (fun i=>eI (D.getD ((0:Int).toNat+i) default)),eI m,sv,eI i]∧G4 2 1 eI (H5 p us D m i) st sv s) ?_ ?_
 ·conv=>whnf
  exact ⟨.emp,rfl,G4.start _ _ _ _⟩
 ·rintro i vs s hi ⟨sv,rfl,hc⟩
  conv=>whnf
  cases hd:decide ((i:Int)<(N:Int))
  ·obtain rfl:=D7 hd hi
   have hln:(H5 p us D m i).length=i:=by unfold H5;simp
   have hb0:∀ k,k<(H5 p us D m i).length→0≤gI (H5 p us D m i) k∧gI (H5 p us D m i) k≤(gU us (gI (D.take i) k).toNat).net:=fun k hk=>by
    have e:gI (D.take i) k=gI D k:=by unfold gI;rw [List.getD_eq_getElem?_getD,List.getD_eq_getElem?_getD,List.getElem?_take_of_lt (by omega)]
    rw [e]
    unfold H5
    rw [J9 _ (by omega)]
    unfold B1d
    have h9:=hu.at0 (gI D k).toNat
    split
    ·exact ⟨(Q4 _ _).1,A3V h9 hp.rate.1 hp.rate.2⟩
    ·exact ⟨Int.le_refl _,h9⟩
   have h0s:∀ x∈H5 p us D m i,0≤x:=fun x hx=>by obtain ⟨k,hk,rfl⟩:=F2 hx;exact (hb0 k hk).1
   have hsum:A6 (H5 p us D m i)≤1000000000000000:=by
    have h5:=A1z hu (hP.take i) (offs:=H5 p us D m i) (by rw [hln,List.length_take];omega) hb0 (H5 p us D m i).length (Nat.le_refl _)
    rw [List.take_length] at h5
    have:=h5.sum
    have:=hu.sum
    have:=D0 (h5.ok hu).nets0
    omega
   have hE:A1K us (D.take i) (H5 p us D m i) p.closes=S9 p us mine:=by
    rw [hout]
    unfold A1K
    rw [hln,A7r i (Nat.le_refl _)]
    have hn:=D0 h0s
    by_cases hz:A6 (H5 p us D m i)=0
    ·rw [if_pos hz,hz,A2b (A2R h0s hz) i (by omega)];rfl
    ·rw [if_neg hz,decide_eq_true (show A6 (H5 p us D m i)>0 by omega),Bool.true_and]
   rw [←hE];conv=>whnf
   have hsh:B4 [C9 us,.arr 1 i (fun i=>eI (D.getD ((0:Int).toNat+i) default)),sv,eB p.closes] s [C9 us,B6 (D.take i),B6 (H5 p us D m i),eB p.closes] st:=by
    refine B4.cons (t:=s) (B4.keep _ _) (B4.cons (t:=s) ?_ (B4.cons hc.shift (B4.keep _ _)))
    have e:B6 (D.take i)=.arr 1 i (fun k=>eI (gI (D.take i) k)):=by unfold B6 B1;rw [List.length_take,Nat.min_eq_left (by omega)]
    rw [e]
    refine B4.arr fun k hk=>?_
    show eI (D.getD ((0:Int).toNat+k) default)=eI ((D.take i).getD k default)
    rw [show (0:Int).toNat+k=k by simp,List.getD_eq_getElem?_getD,List.getD_eq_getElem?_getD,List.getElem?_take_of_lt hk]
   refine I7 hsh (B3 (B2M us (D.take i) (H5 p us D m i) p.closes hu (hP.take i) (by rw [List.length_take];omega) (by rw [hln,List.length_take];omega) hb0 hsum st) ?_);conv=>whnf
   exact ⟨rfl,rfl⟩
  ·have hi':=H0 hd
   have hr:=hP.rng i (by omega)
   have hrem:(i:Int).tmod (m:Int)=((i % m:Nat):Int):=by rw [Int.tmod_eq_emod_of_nonneg (by omega),Int.natCast_emod]
   have hln:(H5 p us D m i).length=i:=by unfold H5;simp
   have hsn:H5 p us D m (i+1)=H5 p us D m i++[B1d p us D m i]:=by unfold H5;rw [List.range_succ,List.map_append];rfl
   have hbo:B1d p us D m i=if ((i % m:Nat):Int)≥p.buy then I1 (gU us (gI D i).toNat).net p.rate else 0:=rfl
   conv=>whnf
   refine ⟨[],[],List.range 6,by kernel_rfl,?_⟩;conv=>whnf
   rw [decide_eq_false (show ¬(m:Int)=0 by omega)];conv=>whnf
   rw [hrem]
   refine C4 (fun h1=>?_) (fun h1=>?_)<;>rw [h1]
   case' refine_1 =>
    rw [if_pos (of_decide_eq_true h1)] at hbo;conv=>whnf
    refine ⟨[],[],List.range 12,by kernel_rfl,?_⟩;conv=>whnf
    refine ⟨rfl,⟨by omega,by omega⟩,?_⟩;conv=>whnf
    rw [show (0:Int).toNat+(i:Int).toNat=i by simp]
    refine ⟨rfl,⟨by show 0≤gI D i;omega,by show gI D i<(us.length:Int);omega⟩,?_⟩;conv=>whnf
    refine ⟨_,D2 (A7i (gU us (gI D i).toNat).net p.rate _),?_⟩
    rw [←hbo]
   case' refine_2 =>
    rw [if_neg (of_decide_eq_false h1)] at hbo
   all_goals (conv=>whnf)
   all_goals refine G4.app (q:=r2) (y:=B1d p us D m i) rfl rfl rfl rfl rfl (by first | rfl | (rw [hbo];rfl)) (by show (_+1) * 8≤140737488355328;omega) hc (fun sv' s' hc'=>?_)
   all_goals (conv=>whnf)
   all_goals refine ⟨rfl,?_⟩
   all_goals (conv=>whnf)
   all_goals exact nx hi' ⟨sv',by rw [C2 (by omega)],by rw [hsn];exact hc'⟩
theorem B8T (used:List Bool) (l:List QE):∃ pre,l=pre++(L1 used l).2∧∀ e∈pre,used.getD e.2.toNat default=true∨(L1 used l).1=some e.2:=by
 induction l with
 | nil=>exact ⟨[],rfl,fun e h=>by cases h⟩
 | cons e l ih =>
  by_cases hu:used.getD e.2.toNat default=true
  ·have ht:L1 used (e::l)=L1 used l:=by
    show (if used.getD e.2.toNat default=true then L1 used l else (some e.2,l))=_
    rw [if_pos hu]
   obtain ⟨pre,h1,h2⟩:=ih
   rw [ht]
   exact ⟨e::pre,by rw [List.cons_append,←h1],fun x hx=>by
    rcases List.mem_cons.1 hx with rfl | hx
    ·exact .inl hu
    ·exact h2 x hx⟩
  ·have ht:L1 used (e::l)=(some e.2,l):=by
    show (if used.getD e.2.toNat default=true then L1 used l else (some e.2,l))=_
    rw [if_neg hu]
   rw [ht]
   exact ⟨[e],rfl,fun x hx=>by rw [List.mem_singleton] at hx;subst hx;exact .inr rfl⟩
theorem B6v {used:List Bool} {pre:List QE} (h:∀ e∈pre,used.getD e.2.toNat default=true) (l:List QE):L1 used (pre++l)=L1 used l:=by
 induction pre with
 | nil=>rfl
 | cons e pre ih =>
  show (if used.getD e.2.toNat default=true then L1 used (pre++l) else (some e.2,pre++l))=_
  rw [if_pos (h e (List.mem_cons_self ..))]
  exact ih fun x hx=>h x (List.mem_cons_of_mem _ hx)
def A3f (E:Nat→List QE) (n:Nat) (s:MSt):Prop:=∀ k,k<n→∃ pre,E k=pre++s.es k∧∀ e∈pre,s.used.getD e.2.toNat default=true
theorem A4Y {used:List Bool} {i:Nat} (hi:i<used.length) (j:Nat):(used.set i true).getD j default=if j=i then true else used.getD j default:=by
 simp only [List.getD_eq_getElem?_getD,List.getElem?_set]
 by_cases h:j=i
 ·subst h;simp [hi]
 ·rw [if_neg (fun e=>h e.symm),if_neg h]
theorem A3f.take {E:Nat→List QE} {us:List B7} {n:Nat} {s s':MSt} (h:A3f E n s) (hok:MOk us n s) {k:Nat} (hk:k<n) (ht:A0k k s=some s'):A3f E n s':=by
 obtain ⟨pre0,p1,p2⟩:=B8T s.used (s.es k)
 obtain ⟨_,t2,_,_⟩:=A2A s.used (s.es k)
 unfold A0k at ht
 split at ht
 ·cases ht
 ·rename_i i hi
  cases ht
  obtain ⟨e0,he0,rfl,_⟩:=t2 i hi
  have hlt:e0.2.toNat<s.used.length:=by rw [hok.len];exact (hok.rng k hk e0 he0).2
  intro j hj
  obtain ⟨pre,h1,h2⟩:=h j hj
  have hmono:∀ e:QE,s.used.getD e.2.toNat default=true→(s.used.set e0.2.toNat true).getD e.2.toNat default=true:=fun e he=>by
   rw [A4Y hlt];split
   ·rfl
   ·exact he
  by_cases ej:j=k
  ·subst ej
   refine ⟨pre++pre0,?_,fun e he=>?_⟩
   ·show E j=_++X6 s.es j _ j
    rw [G7,List.append_assoc,←p1];exact h1
   ·rcases List.mem_append.1 he with he | he
    ·exact hmono e (h2 e he)
    ·rcases p2 e he with he | he
     ·exact hmono e he
     ·rw [hi] at he
      have he:=Option.some.inj he
      show (s.used.set _ true).getD _ default=true
      rw [A4Y hlt,if_pos (by rw [he])]
  ·refine ⟨pre,?_,fun e he=>hmono e (h2 e he)⟩
   show E j=_++X6 s.es k _ j
   rw [K3 ej];exact h1
theorem A3f.takes {E:Nat→List QE} {us:List B7} {n:Nat} {s:MSt} (h:A3f E n s) (hok:MOk us n s) {k:Nat} (hk:k<n):∀ {c:Nat} {s':MSt},P8 k c s=some s'→A3f E n s'
 | 0,s',e=>by cases e;exact h
 | c+1,s',e=>by
  unfold P8 at e
  obtain ⟨s1,h1,h2⟩:=Option.bind_eq_some_iff.1 e
  exact (A3f.takes h hok hk h1).take (hok.takes hk h1) hk h2
theorem A3f.parts {E:Nat→List QE} {us:List B7} {p:B2} {s:MSt} (h:A3f E p.parts.length s) (hok:MOk us p.parts.length s):∀ {k:Nat} {s':MSt},k≤p.parts.length→J4 p.parts k s=some s'→A3f E p.parts.length s'
 | 0,s',_,e=>by cases e;exact h
 | k+1,s',hk,e=>by
  unfold J4 at e
  obtain ⟨s1,h1,h2⟩:=Option.bind_eq_some_iff.1 e
  exact (A3f.parts h hok (by omega) h1).takes (MOk.parts hok (by omega) h1) (by omega) h2
def A7M (p:B2) (ms:MSt):List Int:=match J4 p.parts p.parts.length ms with | none=>[] | some s=>C5 s.l
theorem C4D (p:B2) (hp:A3d p) (us:List B7) (hul:us.length≤100000) (E:Nat→List QE) (L:List (List Int)) (hL:L.length=p.parts.length) (hLE:∀ k,k<p.parts.length→L.getD k default=(E k).map (·.2)) (hE:∀ k,k<p.parts.length→(E k).length≤100000∧∀ e∈E k,0≤e.2∧e.2.toNat<us.length)
  (ms:MSt) (hl0:ms.l=[]) (hm:MOk us p.parts.length ms) (hpre:A3f E p.parts.length ms) (bu:Nat) (gu:Nat→AV) (st:St) (bl:Nat) (gl:Nat→AV) (hbl:st bl=some ⟨29,1,L.length,gl⟩) (hgl:∀ k,k<L.length→gl k=B6 (L.getD k default)) (hbu:st bu=some ⟨4,1,us.length,gu⟩) (hgu:∀ k,k<us.length→gu k=eB (ms.used.getD k default)) :
  S P 252 [B9 p,C9 us,.own 1 bl 0 L.length,.own 1 bu 0 us.length] st fun v st'=>v=B6 (A7M p ms)∧st'=st:=by
 refine S.post (post:=fun v st'=>((v=.emp∧A7M p ms=[])∨v=B6 (A7M p ms))∧F3 st st') ?_
  (fun v st' ⟨h,hs⟩=>⟨_,st,⟨rfl,rfl⟩,by
   rcases h with ⟨rfl,h⟩ | rfl
   ·rw [h];exact (hs.shift _).trans (I6 1 _)
   ·exact hs.shift _⟩)
 have hn8:=hp.n8
 refine A7 [4] C0 mixed Tryz.func252 (by rfl) rfl rfl rfl ?_
 have main:∀ (tv:AV) (s0:St) ,H9 4 1 (fun k=>eB (ms.used.getD k default)) st us.length tv s0→True:=fun _ _ _=>trivial
 conv=>whnf
 refine H9.apps (q:=r4) (f:=fun k=>eB (ms.used.getD k default)) rfl rfl rfl rfl (C4O hbu rfl (by show 0+us.length≤us.length;omega)) (fun i hi=>by show gu (0+i)=eB (ms.used.getD (0+i) default);rw [Nat.zero_add];exact hgu i hi) (by show (0+us.length) * 1≤_;omega) (H9.start _ _ _ st) (fun tv s0 hc0=>?_)
 rw [Nat.zero_add] at hc0
 clear main
 conv=>whnf
 refine lp p.parts.length [2,4,9,10,11] (fun i vs s=>∃ sv tv s0 si,vs=[.own 1 bl 0 L.length,.fptr (B9 p) 0,sv,tv,eI i]∧J4 p.parts i ms=some si∧H9 4 1 (fun k=>eB (si.used.getD k default)) st us.length tv s0∧G4 3 1 eI si.l s0 sv s) ?_ ?_
 ·conv=>whnf
  exact ⟨.emp,tv,s0,ms,rfl,rfl,hc0,by rw [hl0];exact G4.start _ _ _ _⟩
 ·clear hc0
  rintro i vs s hi ⟨sv,tv,s0,si,rfl,hsi,hc0,hc1⟩
  have hmi:=MOk.parts hm hi hsi
  have hpi:=hpre.parts hm hi hsi
  have hleni:=A1i hp hi hsi
  rw [hl0,List.length_nil] at hleni;conv=>whnf
  cases hd:decide ((i:Int)<(p.parts.length:Int))
  ·obtain rfl:=D7 hd hi
   have hone:A7M p ms=C5 si.l:=by unfold A7M;rw [hsi]
   conv=>whnf
   refine I7 hc1.shift (B3 (B8E si.l (by omega) _) ?_);conv=>whnf
   exact ⟨.inr (by rw [hone];rfl),hc0.sup⟩
  ·have hi':=H0 hd
   have hLi:L.getD (i:Int).toNat default=(E i).map (·.2):=by rw [Int.toNat_natCast];exact hLE i hi'
   obtain ⟨hEl,hEr⟩:=hE i hi'
   have hct:=hp.at hi'
   obtain ⟨pre,hpr1,hpr2⟩:=hpi i hi'
   have hcn:(p.parts.getD (i:Int).toNat default).count=(((p.parts.getD i default).count.toNat:Nat):Int):=by rw [Int.toNat_natCast];omega
   have hfin:J4 p.parts (i+1) ms=P8 i (p.parts.getD i default).count.toNat si:=by
    conv=>lhs;unfold J4
    rw [hsi];rfl
   have hnone:∀ n,n≤(p.parts.getD i default).count.toNat→P8 i n si=none→A7M p ms=[]:=fun n hn hnn=>by
    have h1:=A5e hnn hn
    rw [←hfin] at h1
    unfold A7M;rw [A4N h1 hi']
   have hC100:(p.parts.getD i default).count.toNat≤100:=by omega
   generalize (p.parts.getD i default).count.toNat=C at *
   conv=>whnf
   refine lp (E i).length [2,4,9,10,11,12,13] (fun k vs s=>∃ (sv tv:AV) (s0:St) (n:Nat) (si2:MSt),vs=[.own 1 bl 0 L.length,.fptr (B9 p) 0,sv,tv,eI i,eI n,eI k]∧n≤C∧P8 i n si=some si2∧L1 si2.used (si2.es i)=L1 si2.used ((E i).drop k)∧H9 4 1 (fun k=>eB (si2.used.getD k default)) st us.length tv s0∧G4 3 1 eI si2.l s0 sv s) ?_ ?_
   ·conv=>whnf
    exact ⟨sv,tv,s0,0,si,rfl,Nat.zero_le _,rfl,by rw [List.drop_zero,hpr1,B6v hpr2],hc0,hc1⟩
   ·clear hc0 hc1
    rintro k vs s hk ⟨sv,tv,s0,n,si2,rfl,hn,hs2,htk,hc0,hc1⟩
    have hm2:=hmi.takes hi' hs2
    have hlen2:=A1n hs2
    have hlv:=hc1.sup bl _ (hc0.sup bl _ hbl)
    have hgi:gl (0+(i:Int).toNat)=B6 (L.getD (i:Int).toNat default):=by rw [Nat.zero_add];exact hgl _ (by omega)
    conv=>whnf
    refine ⟨rfl,⟨by omega,by omega⟩,?_⟩;conv=>whnf
    refine E9 hlv rfl (by omega) hgi ?_;conv=>whnf
    rw [hLi]
    have hml:((E i).map (·.2)).length=(E i).length:=List.length_map ..
    generalize hMe:(E i).map (·.2)=Mi at *
    rw [hml]
    cases hd1:decide ((k:Int)<((E i).length:Int))
    case' false =>
     have hbad:n<C→A7M p ms=[]:=fun hlt=>by
      obtain rfl:=D7 hd1 hk
      refine hnone (n+1) hlt ?_
      unfold P8
      rw [hs2]
      show A0k i si2=none
      unfold A0k
      rw [htk,List.drop_length];rfl
     conv=>whnf
    case' true =>
     have hk':=H0 hd1
     conv=>whnf
     refine ⟨rfl,⟨by omega,by omega⟩,?_⟩;conv=>whnf
     rw [hcn]
     cases hd2:decide ((n:Int)<(C:Int))
     case' false =>
      have hbad:n<C→A7M p ms=[]:=fun hlt=>absurd hd2 (by rw [decide_eq_true (by omega)];simp)
      conv=>whnf
     case' true =>
      have hnC:=H0 hd2
      have hMk:Mi.getD (k:Int).toNat default=(at_ (E i) k).2:=by rw [←hMe,Int.toNat_natCast];exact E2 (fun e:QE=>e.2) _ hk'
      have hu:0≤(at_ (E i) k).2∧(at_ (E i) k).2.toNat<us.length:=hEr _ (B5 hk')
      have hdrop:(E i).drop k=at_ (E i) k::(E i).drop (k+1):=by
       rw [List.drop_eq_getElem_cons hk'];simp [at_,hk']
      have hul2:us.length=si2.used.length:=hm2.len.symm
      rcases hc0 with ⟨h0,rfl,rfl⟩ | ⟨h0,bt,g,hbt,rfl,rfl,hg⟩
      ·omega
      have hbs:=hc1.sup bt _ (A0 ..)
      conv=>whnf
      refine ⟨rfl,⟨by omega,by omega⟩,?_⟩;conv=>whnf
      refine E9 hlv rfl (by omega) hgi ?_;conv=>whnf
      rw [hLi]
      refine ⟨rfl,⟨by omega,by omega⟩,?_⟩;conv=>whnf
      rw [←hMk] at hu
      refine ⟨rfl,⟨by omega,by omega⟩,?_⟩;conv=>whnf
      refine E9 hbs rfl (by omega) (v:=eB (si2.used.getD (Mi.getD (k:Int).toNat default).toNat default)) (by rw [Nat.zero_add];exact hg _ hu.2) ?_;conv=>whnf
      refine C4 (fun h5=>?_) (fun h5=>?_)<;>rw [h5]
      ·have hfr:si2.used.getD (Mi.getD (k:Int).toNat default).toNat default=false:=by simpa using h5
       have htk2:L1 si2.used (si2.es i)=(some (Mi.getD (k:Int).toNat default),(E i).drop (k+1)):=by
        rw [htk,hdrop,hMk]
        show (if si2.used.getD (at_ (E i) k).2.toNat default=true then _ else _)=_
        rw [if_neg (by rw [←hMk,hfr];simp)]
       have hs3:P8 i (n+1) si=some ⟨si2.used.set (Mi.getD (k:Int).toNat default).toNat true,X6 si2.es i ((E i).drop (k+1)),si2.l++[(Mi.getD (k:Int).toNat default)]⟩:=by
        unfold P8
        rw [hs2]
        show A0k i si2=_
        unfold A0k
        rw [htk2]
       conv=>whnf
       refine ⟨rfl,⟨by omega,by omega⟩,?_⟩;conv=>whnf
       refine J7 hbs rfl (by omega) (v:=eB (si2.used.getD (Mi.getD (k:Int).toNat default).toNat default)) (by rw [Nat.zero_add];exact hg _ hu.2) (by rfl) ?_
       have hc2:=H9.write hc1 (y':=⟨4,1,us.length,G6 g (0+(Mi.getD (k:Int).toNat default).toNat) (eB true)⟩) (A0 ..)
       rw [B8] at hc2;conv=>whnf
       refine G4.app (q:=r3) (y:=(Mi.getD (k:Int).toNat default)) (L:=si2.l) rfl rfl rfl rfl rfl rfl (by show (_+1) * 8≤140737488355328;omega) hc2 (fun sv' s' hc'=>?_);conv=>whnf
       refine ⟨rfl,?_⟩;conv=>whnf
       refine nx hk' ⟨sv',.own 1 bt 0 us.length,_,n+1,_,by rw [C2 (by omega),C2 (by omega)],hnC,hs3,?_,.inr ⟨h0,bt,_,hbt,rfl,rfl,fun j hj=>?_⟩,hc'⟩
       ·show L1 _ (X6 si2.es i _ i)=_
        rw [G7]
       ·show G6 g (0+(Mi.getD (k:Int).toNat default).toNat) (eB true) j=eB ((si2.used.set (Mi.getD (k:Int).toNat default).toNat true).getD j default)
        rw [Nat.zero_add,A4Y (by omega)]
        by_cases ej:j=(Mi.getD (k:Int).toNat default).toNat
        ·rw [if_pos ej,ej,A5]
        ·rw [if_neg ej,F4 ej];exact hg j hj
      ·have hfr:si2.used.getD (Mi.getD (k:Int).toNat default).toNat default=true:=by simpa using h5
       conv=>whnf
       refine ⟨rfl,?_⟩;conv=>whnf
       refine nx hk' ⟨sv,.own 1 bt 0 us.length,_,n,si2,by rw [C2 (by omega)],hn,hs2,?_,.inr ⟨h0,bt,g,hbt,rfl,rfl,hg⟩,hc1⟩
       rw [htk,hdrop]
       show (if si2.used.getD (at_ (E i) k).2.toNat default=true then L1 si2.used ((E i).drop (k+1)) else _)=_
       rw [if_pos (by rw [←hMk];exact hfr)]
    all_goals
     refine ⟨rfl,⟨by omega,by omega⟩,?_⟩;conv=>whnf
     rw [hcn]
     cases hd3:decide ((n:Int)<(C:Int))
     ·obtain rfl:n=C:=by have:=of_decide_eq_false hd3;omega
      conv=>whnf
      refine ⟨rfl,?_⟩;conv=>whnf
      exact nx hi' ⟨sv,tv,s0,si2,by rw [C2 (by omega)],by rw [hfin];exact hs2,hc0,hc1⟩
     ·have hb:=hbad (H0 hd3)
      conv=>whnf
      exact ⟨.inl ⟨rfl,hb⟩,hc0.sup.trans hc1.sup⟩
abbrev RL (ls:List Int) (svl:AV):St→St→Prop:=fun s t=>ROut F3 2 1 (fun k=>eI (gI ls k)) ls.length s svl t
abbrev RA (all ls:List Int) (sva svl:AV):St→St→Prop:=fun s t=>ROut (RL ls svl) 3 1 (fun k=>eI (gI all k)) all.length s sva t
theorem B1V (ls:List Int) (svl:AV):H2 (RL ls svl):=N2 C8 _ _ _ _ _
theorem B6J (all ls:List Int) (sva svl:AV):H2 (RA all ls sva svl):=N2 (B1V ls svl) _ _ _ _ _
theorem RA.appA {all ls:List Int} {sva svl:AV} {s t:St} {y:Int} {x:AV} {k:KK} {g:Nat→AV} (h:RA all ls sva svl s t) (hs:Y5 1 t x=some (1,g)) (hg:g 0=eI y) (hb:(all.length+1) * 8≤140737488355328)
  (hk:∀ sva' t',RA (all++[y]) ls sva' svl s t'→k sva' t'):A5h T 29 sva x t k :=
 ROut.app (q:=r3) (f:=fun k=>eI (gI (all++[y]) k)) (B1V ls svl) rfl rfl rfl rfl hs (by rw [hg];show eI y=eI (gI _ _);rw [A6S]) hb (ROut.congr h fun k hk=>by show eI _=eI _;rw [K5 hk]) (fun sv' t' h'=>hk sv' t' (by
  show ROut _ _ _ _ (all++[y]).length _ _ _
  rw [List.length_append];exact h'))
theorem RA.appL {all ls:List Int} {sva svl:AV} {s t:St} {y:Int} {x:AV} {k:KK} {g:Nat→AV} (h:RA all ls sva svl s t) (hs:Y5 1 t x=some (1,g)) (hg:g 0=eI y) (hb:(ls.length+1) * 8≤140737488355328)
  (hk:∀ svl' t',RA all (ls++[y]) sva svl' s t'→k svl' t'):A5h T 41 svl x t k:=by
 obtain ⟨s0,hc,h⟩:=h
 refine ROut.app (q:=r2) (f:=fun k=>eI (gI (ls++[y]) k)) C8 rfl rfl rfl rfl hs (by rw [hg];show eI y=eI (gI _ _);rw [A6S]) hb (ROut.congr h fun k hk=>by show eI _=eI _;rw [K5 hk]) (fun sv' t' h'=>hk sv' t' ⟨s0,hc,?_⟩)
 show ROut _ _ _ _ (ls++[y]).length _ _ _
 rw [List.length_append];exact h'
theorem RA.start (s:St):RA [] [] .emp .emp s s:=ROut.start (ROut.start (F3.refl s) _ _ _) _ _ _
theorem RA.shift {all ls:List Int} {sva svl:AV} {s t:St} (h:RA all ls sva svl s t) (a b:AV):∃ t2,B4 [a,sva,svl,b] t [a,B6 all,B6 ls,b] t2∧F3 s t2:=by
 obtain ⟨t1,h1,h2⟩:=ROut.shift (B1V ls svl) h
 obtain ⟨t2,h3,h4⟩:=ROut.shift C8 h2
 exact ⟨t2,B4.cons (B4.keep _ _) (B4.cons h1 (B4.cons h3 (B4.keep _ _))),h4⟩
def A2X (u:List Bool) (l:List Int):List Bool:=l.foldl (fun u x=>u.set x.toNat true) u
theorem B6i (u:List Bool) (l:List Int):(A2X u l).length=u.length:=by
 unfold A2X
 induction l generalizing u with
 | nil=>rfl
 | cons x l ih=>rw [List.foldl_cons,ih,List.length_set]
theorem B6h {u:List Bool} {l:List Int} (hl:∀ x∈l,x.toNat<u.length) (j:Nat):(A2X u l).getD j default=true↔u.getD j default=true∨j∈l.map Int.toNat:=by
 unfold A2X
 induction l generalizing u with
 | nil=>simp
 | cons x l ih =>
  rw [List.foldl_cons,ih (fun y hy=>by rw [List.length_set];exact hl y (List.mem_cons_of_mem _ hy)),A4Y (hl x (List.mem_cons_self ..)),List.map_cons,List.mem_cons]
  by_cases h:j=x.toNat
  ·simp [h]
  ·rw [if_neg h];simp [h]
theorem A8o {us:List B7} {l offs l' offs':List Int} (h:l.length=offs.length):∀ k,k≤offs'.length→k≤l'.length→D5 us (l++l') (offs++offs') (offs.length+k)=D5 (D5 us l offs offs.length) l' offs' k
 | 0,_,_=>by
  rw [Nat.add_zero]
  have:∀ n,n≤offs.length→D5 us (l++l') (offs++offs') n=D5 us l offs n:=fun n=>by
   induction n with
   | zero=>intro _;rfl
   | succ n ih =>
    intro hn
    unfold D5
    rw [ih (by omega),K5 (by omega),K5 (by omega)]
  exact this _ (Nat.le_refl _)
 | k+1,h1,h2=>by
  have ih:=A8o (us:=us) (l':=l') (offs':=offs') h k (by omega) (by omega)
  have e:∀ (a b:List Int),a.length=offs.length→gI (a++b) (offs.length+k)=gI b k:=fun a b ha=>by
   unfold gI
   rw [List.getD_eq_getElem?_getD,List.getD_eq_getElem?_getD,List.getElem?_append_right (by omega),ha,Nat.add_sub_cancel_left]
  rw [←Nat.add_assoc]
  unfold D5
  rw [ih,e l l' h,e offs offs' rfl]
structure C1T (p:B2) (us:List B7) (E:Nat→List QE) (D:Nat) (b:BSt) (ls:List Int):Prop where
 ok:BOk p us D b
 pre:A3f E p.parts.length ⟨b.ms.used,b.ms.es,[]⟩
 len:ls.length=b.taken.length
 out:b.out=D5 us b.taken ls ls.length
 sum:A6 ls=b.all
 pos:b.taken=[]∨0<b.all
 bnd:∀ k,k<ls.length→0≤gI ls k∧gI ls k≤(gU us (gI b.taken k).toNat).net
 nd:(b.taken.map Int.toNat).Nodup
 used:∀ x∈b.taken,b.ms.used.getD x.toNat default=true
theorem C1T.step {p:B2} (hp:A3d p) {us:List B7} (hu:E6 us) {E:Nat→List QE} {D:Nat} {b:BSt} {ls:List Int} (h:C1T p us E D b ls) {s:MSt} (hs:J4 p.parts p.parts.length ⟨b.ms.used,b.ms.es,[]⟩=some s) (hc:H1 us s.l>p.amount) :
  E8 us (C5 s.l)=H6 b.out (C5 s.l)∧C1T p us E D ⟨A2q b.out (C5 s.l) (H1 us s.l - p.amount),s,b.taken++C5 s.l,b.all+(H1 us s.l - p.amount)⟩ (ls++D8 (H1 us s.l - p.amount) (E8 us (C5 s.l))):=by
 obtain ⟨k1,k2,k3⟩:=h.ok.step hp hu hs hc
 have hok0:MOk us p.parts.length ⟨b.ms.used,b.ms.es,[]⟩:=⟨h.ok.ok.len,h.ok.ok.rng,h.ok.ok.srt,fun x hx=>by simp at hx⟩
 have hok:=MOk.parts hok0 (Nat.le_refl _) hs
 have htr:=U5.parts (U5.start b.ms.used b.ms.es) hok0 (Nat.le_refl _) hs
 have hpre:=h.pre.parts hok0 (Nat.le_refl _) hs
 have hN:E8 us (C5 s.l)=H6 b.out (C5 s.l):=by
  unfold E8 H6
  exact List.map_congr_left fun x hx=>by rw [h.ok.same _ (htr.free x (R4.1 hx))]
 have hW:=k1.weights
 rw [←hN] at hW
 obtain ⟨a1,a2,a3⟩:=X8 hW
 have hle:=fun {k} (hk:k<(E8 us (C5 s.l)).length)=>A6g hW (by have:=k1.le;rw [←hN] at this;exact this) hk
 have hnl:=A3P us (C5 s.l)
 have hlf:A2q b.out (C5 s.l) (H1 us s.l - p.amount)=D5 b.out (C5 s.l) (D8 (H1 us s.l - p.amount) (E8 us (C5 s.l))) (D8 (H1 us s.l - p.amount) (E8 us (C5 s.l))).length:=by
  unfold A2q;rw [←hN,a2,hnl]
 have hlen:=h.len
 generalize D8 (H1 us s.l - p.amount) (E8 us (C5 s.l))=X at *
 refine ⟨hN,⟨k2,hpre,?_,?_,?_,?_,?_,?_,?_⟩⟩
 ·show (ls++X).length=(b.taken++C5 s.l).length
  rw [List.length_append,List.length_append];omega
 ·show A2q _ _ _=D5 us (b.taken++C5 s.l) (ls++X) (ls++X).length
  rw [hlf,h.out,List.length_append,A8o h.len.symm X.length (Nat.le_refl _) (by omega)]
 ·show A6 (ls++X)=_
  rw [G5,h.sum,a1]
 ·refine .inr ?_
  show 0<b.all+(H1 us s.l - p.amount)
  have:=h.ok.off.pos
  omega
 ·intro k hk
  show 0≤gI (ls++X) k∧gI (ls++X) k≤(gU us (gI (b.taken++C5 s.l) k).toNat).net
  by_cases hkl:k<ls.length
  ·rw [K5 hkl,K5 (by omega)];exact h.bnd k hkl
  ·have e:∀ (a b:List Int),a.length=ls.length→gI (a++b) k=gI b (k - ls.length):=fun a b ha=>by
    unfold gI
    rw [List.getD_eq_getElem?_getD,List.getD_eq_getElem?_getD,List.getElem?_append_right (by omega),ha]
   rw [List.length_append] at hk
   rw [e ls X rfl,e b.taken _ hlen.symm]
   refine ⟨a3 _ (B5 (by omega)),?_⟩
   have h9:=hle (k:=k - ls.length) (by omega)
   rw [show gI (E8 us (C5 s.l)) (k - ls.length)=(gU us (gI (C5 s.l) (k - ls.length)).toNat).net from E2 (fun i:Int=>(gU us i.toNat).net) _ (by omega)] at h9
   exact h9
 ·show ((b.taken++C5 s.l).map Int.toNat).Nodup
  rw [List.map_append]
  refine List.nodup_append.2 ⟨h.nd,((Y4 s.l).map Int.toNat).nodup_iff.2 htr.nd,fun x hx y hy e=>?_⟩
  subst e
  obtain ⟨u,hu1,rfl⟩:=List.mem_map.1 hx
  obtain ⟨w,hw1,hw2⟩:=List.mem_map.1 hy
  have f1:=h.used u hu1
  have f2:=htr.free w (R4.1 hw1)
  rw [hw2,f1] at f2;cases f2
 ·intro x hx
  show s.used.getD x.toNat default=true
  rw [htr.used]
  rcases List.mem_append.1 hx with hx | hx
  ·exact .inl (h.used x hx)
  ·exact .inr (List.mem_map_of_mem (R4.1 hx))
set_option maxHeartbeats 1000000 in
theorem B8w (p:B2) (us:List B7) (parts:List (List Int)) (hps:A0I p) (hright:G2 p=true) (hk:p.kind=4) (hp:A3d p) (hu:E6 us) (hl:parts.length=p.parts.length) (hm:∀ x∈parts,K7 us x) (st:St) :
  S P 168 [B9 p,C9 us,B1 1 B6 parts] st fun v st'=>v=.tuple [C9 (O9 p us parts).1,eI (O9 p us parts).2]∧st'=st:=by
 have hul:=hu.len
 have hn1:=hp.n1
 have hn8:=hp.n8
 have ha:=hp.amt
 have hme:∀ k,k<parts.length→K7 us (parts.getD k default):=fun k hk=>hm _ (B5 hk)
 have hst0:=A4y hu hl (fun k hk=>hme k hk)
 have hD:tot p.parts.length (F6 us parts).ms.es≤800000:=by
  have:=C1z (n:=p.parts.length) (B:=100000) (es:=(F6 us parts).ms.es) (fun i hi=>by
   show (E4 us (parts.getD i [])).length≤100000
   rw [A1f]
   exact Nat.le_trans (hme i (by omega)).len hul)
  have h8:p.parts.length * 100000≤8 * 100000:=Nat.mul_le_mul_right _ hn8
  omega
 refine A2E ?_
 refine A7 [3] C0 mixed Tryz.func168 (by rfl) rfl rfl rfl ?_;conv=>whnf
 refine H9.apps (q:=B8v) (f:=fun k=>V8 (gU us k)) rfl rfl rfl rfl (A6p _ _ _ _) (fun i hi=>by rw [Nat.zero_add]) (by show (0+us.length) * 24≤_;omega) (H9.start _ _ _ st) (fun svS st1 hcS=>?_)
 have hsupS:=hcS.sup
 clear hcS
 conv=>whnf
 refine B3 (A6m p hps hright _) ?_;conv=>whnf
 rw [show (p.kind != 4)=false from by rw [hk];rfl];conv=>whnf
 rw [show ((parts.length:Int) != (p.parts.length:Int))=false from by rw [hl];simp];conv=>whnf
 refine lp parts.length [1,2,3,8,9,10] (fun i vs s=>∃ sv,vs=[C9 us,B1 1 B6 parts,.fptr (B9 p) 0,svS,sv,eI i]∧G4 29 1 B6 ((parts.take i).map fun m=>(E4 us m).map (·.2)) st1 sv s) ?_ ?_
 ·conv=>whnf
  exact ⟨.emp,rfl,G4.start _ _ _ _⟩
 ·rintro i vs s hi ⟨sv,rfl,hc⟩
  conv=>whnf
  cases hd:decide ((i:Int)<(parts.length:Int))
  case true =>
   have hi':=H0 hd
   have hmi:K7 us (parts.getD (i:Int).toNat default):=by rw [Int.toNat_natCast];exact hme i hi'
   conv=>whnf
   refine ⟨rfl,⟨by omega,by omega⟩,?_⟩;conv=>whnf
   refine B3 (B5Z us _ hu hmi _) ?_;conv=>whnf
   refine ⟨rfl,⟨by omega,by omega⟩,?_⟩;conv=>whnf
   refine B3 (B7m us _ hu hmi _) ?_;conv=>whnf
   refine G4.app (q:=r29) (y:=(E4 us (parts.getD (i:Int).toNat default)).map (·.2)) rfl rfl rfl rfl rfl rfl (by show (_+1) * 24≤140737488355328;rw [List.length_map,List.length_take];omega) hc (fun sv' s' hc'=>?_);conv=>whnf
   refine ⟨rfl,?_⟩;conv=>whnf
   exact nx hi' ⟨sv',by rw [C2 (by omega)],by rw [A2B hi'];exact hc'⟩
  obtain rfl:=D7 hd hi
  rw [List.take_length] at hc
  have hLl:(parts.map fun m=>(E4 us m).map (·.2)).length=parts.length:=List.length_map ..
  have hLg:∀ k,k<parts.length→(parts.map fun m=>(E4 us m).map (·.2)).getD k default=(E4 us (parts.getD k default)).map (·.2):=fun k hk=>E2 (fun m=>(E4 us m).map (·.2)) parts hk
  generalize (parts.map fun m=>(E4 us m).map (·.2))=L at *
  rcases hc with ⟨h0,_⟩ | ⟨h0,bl,gl,hbl,rfl,rfl,hgl⟩
  ·omega
  conv=>whnf
  refine mkO rfl rfl rfl (by show 1 * us.length≤_;omega) (by omega) (by rfl) (fun bu hbu=>?_)
  have hnlu:bl≠bu:=fun e=>by subst e;rw [A0] at hbu;cases hbu
  have hblS:(upd st1 bl ⟨29,1,L.length,gl⟩) bl=some ⟨29,1,L.length,gl⟩:=A0 ..
  have hsup2:F3 st (upd st1 bl ⟨29,1,L.length,gl⟩):=hsupS.upd hbl
  generalize upd st1 bl ⟨29,1,L.length,gl⟩=st2 at *
  conv=>whnf
  have hwb:∀ Y:Q3,(upd st2 bu Y) bl=some ⟨29,1,L.length,gl⟩:=fun Y=>by rw [A9 hnlu];exact hblS
  refine ⟨[1,3,9,11,12,13],fun m vs s=>∃ (b:BSt) (ls:List Int) (sva svl:AV) (gu:Nat→AV) (f:Nat),m=tot p.parts.length b.ms.es∧vs=[C9 us,.fptr (B9 p) 0,.own 1 bl 0 L.length,.own 1 bu 0 us.length,sva,svl] ∧
   C1T p us (fun k=>E4 us (parts.getD k default)) (tot p.parts.length (F6 us parts).ms.es) b ls∧(tot p.parts.length b.ms.es<f∧A2n p us (tot p.parts.length (F6 us parts).ms.es+1) (F6 us parts)=A2n p us f b) ∧
   RA b.taken ls sva svl (upd st2 bu ⟨4,1,us.length,gu⟩) s∧∀ k,k<us.length→gu k=eB (b.ms.used.getD k default),?_,?_⟩
  ·conv=>whnf
   refine ⟨_,F6 us parts,[],.emp,.emp,_,_,rfl,rfl,?_,⟨Nat.lt_succ_self _,rfl⟩,RA.start _,fun k hk=>?_⟩
   ·refine ⟨hst0,fun k hk=>⟨[],rfl,fun e he=>by cases he⟩,rfl,rfl,rfl,.inl rfl,fun k hk=>absurd hk (by simp),List.nodup_nil,fun x hx=>by simp [F6] at hx⟩
   ·show eB false=eB ((List.replicate us.length false).getD k default)
    simp [List.getD_eq_getElem?_getD,hk]
  ·rintro m vs s ⟨b,ls,sva,svl,gu,f,rfl,rfl,hI,⟨hf1,hF⟩,hR,hgu⟩
   have hok0:MOk us p.parts.length ⟨b.ms.used,b.ms.es,[]⟩:=⟨hI.ok.ok.len,hI.ok.ok.rng,hI.ok.ok.srt,fun x hx=>by simp at hx⟩
   have hBA:=B6J b.taken ls sva svl
   have hsu:=hBA.sup hR
   have hsu1:=hsu bu _ (A0 ..)
   have hsl1:=hsu bl _ (hwb _)
   have hbl2:=hI.ok.len
   obtain ⟨f,rfl⟩:∃ g,f=g+1:=⟨f - 1,by omega⟩
   conv=>whnf
   refine B3 (C4D p hp us hul (fun k=>E4 us (parts.getD k default)) L (by omega) (fun k hk=>hLg k (by omega)) (fun k hk=>⟨by show (E4 _ _).length≤_;rw [A1f];exact Nat.le_trans (hme k (by omega)).len hul,fun e he=>A5s (hme k (by omega)).rng he⟩) ⟨b.ms.used,b.ms.es,[]⟩ rfl hok0 hI.pre bu gu s bl gl hsl1 hgl hsu1 hgu) ?_
   have fin:A1o p us b=none→∀ t,RA b.taken ls sva svl (upd st2 bu ⟨4,1,us.length,gu⟩) t→∃ t2,B4 [C9 us,sva,svl,eB p.closes] t [C9 us,B6 b.taken,B6 ls,eB p.closes] t2∧F3 st t2 ∧
     S P 250 [C9 us,B6 b.taken,B6 ls,eB p.closes] t2 fun v st'=>v=.tuple [C9 (O9 p us parts).1,eI (O9 p us parts).2]∧st'=t2:=fun hno t ht=>by
    obtain ⟨t2,h1,h2⟩:=ht.shift (C9 us) (eB p.closes)
    have hPl:W8 us b.taken:=B1s hI.ok.mem hI.nd
    have hout:A2n p us (tot p.parts.length (F6 us parts).ms.es+1) (F6 us parts)=b:=by
     rw [hF];unfold A2n;rw [hno]
    have h0s:∀ x∈ls,0≤x:=fun x hx=>by obtain ⟨k,hk,rfl⟩:=F2 hx;exact (hI.bnd k hk).1
    have hE:A1K us b.taken ls p.closes=O9 p us parts:=by
     unfold O9 A1K
     simp only
     rw [hout,←hI.sum,hI.out]
     by_cases hz:A6 ls=0
     ·have ht0:b.taken=[]:=by
       rcases hI.pos with e | e
       ·exact e
       ·rw [←hI.sum] at e;omega
      rw [if_pos hz,A2b (A2R h0s hz) _ (Nat.le_refl _),ht0,hz]
      show (us,(0:Int))=(if p.closes=true then us else us,0)
      split<;>rfl
     ·rw [if_neg hz]
    have hsum:A6 ls≤10000000000000:=by
     have h5:=hI.ok.off.sum
     have:=hu.sum
     have:=D0 (hI.ok.off.ok hu).nets0
     rw [hI.sum];omega
    have hlen:=hI.len
    have htl:b.taken.length≤1000000:=by have:=hI.ok.len;omega
    refine ⟨t2,h1,(hsup2.upd hbu).trans h2,?_⟩
    rw [←hE]
    exact B2M us b.taken ls p.closes hu hPl htl (by omega) hI.bnd (by omega) t2
   cases hs:J4 p.parts p.parts.length ⟨b.ms.used,b.ms.es,[]⟩ with
   | none =>
    have hone:A7M p ⟨b.ms.used,b.ms.es,[]⟩=[]:=by unfold A7M;rw [hs]
    obtain ⟨t2,g1,g2,g3⟩:=fin (by unfold A1o;rw [hs]) s hR
    rw [hone];conv=>whnf
    refine B3 (A5z us [] (by simp) (fun k hk=>absurd hk (by simp)) _) ?_;conv=>whnf
    refine B3 (B0e [] (by simp) (fun x hx=>by cases hx) (by decide) _) ?_;conv=>whnf
    refine I7 g1 (B3 g3 ?_);conv=>whnf
    exact ⟨rfl,g2⟩
   | some s1 =>
    have hok:=MOk.parts hok0 (Nat.le_refl _) hs
    have htr:=U5.parts (U5.start b.ms.used b.ms.es) hok0 (Nat.le_refl _) hs
    have hlen1:=A1i hp (Nat.le_refl _) hs
    have hpos:=A4O hp hs
    simp only [List.length_nil] at hlen1 hpos
    have hone:A7M p ⟨b.ms.used,b.ms.es,[]⟩=C5 s1.l:=by unfold A7M;rw [hs]
    have hcost:A6 (E8 us (C5 s1.l))=H1 us s1.l:=A5E ((Y4 s1.l).map fun i:Int=>(gU us i.toNat).net)
    have hcb:=A0y hu s1.l hok.mem
    have hSl:(C5 s1.l).length=s1.l.length:=Q2 _
    have hSr:∀ k,k<(C5 s1.l).length→0≤gI (C5 s1.l) k∧(gI (C5 s1.l) k).toNat<us.length:=fun k hk=>hok.mem _ (R4.1 (B5 hk))
    have hnl:=A3P us (C5 s1.l)
    have hn0:∀ x∈E8 us (C5 s1.l),0≤x:=fun x hx=>by obtain ⟨i,hi,rfl⟩:=List.mem_map.1 hx;exact hu.at0 _
    rw [hone];conv=>whnf
    refine B3 (A5z us (C5 s1.l) (by omega) hSr _) ?_;conv=>whnf
    refine B3 (B0e _ (by omega) hn0 (by rw [hcost];omega) _) ?_
    rw [hcost];conv=>whnf
    rw [show (((C5 s1.l).length:Int)==0)=false from beq_false_of_ne (by omega)];conv=>whnf
    refine C4 (fun hc=>?_) (fun hc=>?_)<;>rw [hc]
    ·have hc':=of_decide_eq_true hc
     obtain ⟨t2,g1,g2,g3⟩:=fin (by unfold A1o;rw [hs];simp only;rw [if_neg (by omega)]) s hR
     conv=>whnf
     refine I7 g1 (B3 g3 ?_);conv=>whnf
     exact ⟨rfl,g2⟩
    ·have hc':H1 us s1.l>p.amount:=by have:=of_decide_eq_false hc;omega
     obtain ⟨hN,hI2⟩:=hI.step hp hu hs hc'
     obtain ⟨k1,k2,k3⟩:=hI.ok.step hp hu hs hc'
     have hW:=k1.weights
     rw [←hN] at hW
     have hXl:=(X8 hW).2.1
     have hstep:A2n p us (f+1) b=A2n p us f ⟨A2q b.out (C5 s1.l) (H1 us s1.l - p.amount),s1,b.taken++C5 s1.l,b.all+(H1 us s1.l - p.amount)⟩:=by
      conv=>lhs;unfold A2n A1o
      rw [hs];simp only;rw [if_pos hc']
     have w1:IntKind.i64.wrap (H1 us s1.l - p.amount)=H1 us s1.l - p.amount:=A8 (by omega) (by omega)
     have hkl:=k2.len
     simp only at hkl k3
     rw [List.length_append] at hkl
     have hll:=hI.len
     conv=>whnf
     refine ⟨[],[],List.range 13,by kernel_rfl,?_⟩;conv=>whnf
     refine ⟨_,D2 (A5z us (C5 s1.l) (by omega) hSr _),?_⟩;conv=>whnf
     rw [w1]
     refine ⟨_,D2 (B0b _ (E8 us (C5 s1.l)) hW _),?_⟩
     generalize D8 (H1 us s1.l - p.amount) (E8 us (C5 s1.l))=X at *
     conv=>whnf
     refine lp (C5 s1.l).length [1,3,9,11,12,13,14,16,18] (fun i vs s=>∃ (sva svl:AV) (g:Nat→AV),vs=[C9 us,.fptr (B9 p) 0,.own 1 bl 0 L.length,.own 1 bu 0 us.length,sva,svl,B6 (C5 s1.l),B6 X,eI i] ∧
      RA (b.taken++(C5 s1.l).take i) (ls++X.take i) sva svl (upd st2 bu ⟨4,1,us.length,g⟩) s∧∀ k,k<us.length→g k=eB ((A2X b.ms.used ((C5 s1.l).take i)).getD k default)) ?_ ?_
     ·conv=>whnf
      exact ⟨sva,svl,gu,rfl,by rw [List.take_zero,List.take_zero,List.append_nil,List.append_nil];exact hR,hgu⟩
     ·clear hR hgu fin hsu hsu1 hsl1 hBA
      rintro i vs s hi ⟨sva,svl,g,rfl,hR,hg⟩
      have hBA:=B6J (b.taken++(C5 s1.l).take i) (ls++X.take i) sva svl
      conv=>whnf
      cases hd:decide ((i:Int)<((C5 s1.l).length:Int))
      ·obtain rfl:=D7 hd hi
       rw [List.take_length] at hR hg
       rw [List.take_of_length_le (show X.length≤(C5 s1.l).length by omega)] at hR;conv=>whnf
       refine ⟨rfl,?_⟩;conv=>whnf
       refine ⟨tot p.parts.length s1.es,k3,_,_,sva,svl,g,f,rfl,rfl,hI2,⟨by show tot p.parts.length s1.es<f;omega,by rw [←hstep];exact hF⟩,hR,fun k hk=>?_⟩
       rw [hg k hk]
       congr 1
       show (A2X b.ms.used (C5 s1.l)).getD k default=s1.used.getD k default
       rw [←Bool.coe_iff_coe,B6h (fun x hx=>by rw [hI.ok.ok.len];exact (hok.mem x (R4.1 hx)).2),htr.used]
       constructor
       ·rintro (h | h)
        ·exact .inl h
        ·obtain ⟨y,hy,rfl⟩:=List.mem_map.1 h;exact .inr (List.mem_map_of_mem (R4.1 hy))
       ·rintro (h | h)
        ·exact .inl h
        ·obtain ⟨y,hy,rfl⟩:=List.mem_map.1 h;exact .inr (List.mem_map_of_mem (R4.2 hy))
      ·have hi':=H0 hd
       have hr:=hSr i hi'
       have hg2:=hBA.sup hR bu _ (A0 ..)
       have tk:∀ (l:List Int),i<l.length→l.take (i+1)=l.take i++[gI l i]:=fun l h=>L2 h
       conv=>whnf
       refine ⟨rfl,⟨by omega,by omega⟩,?_⟩;conv=>whnf
       refine ⟨rfl,⟨by show 0≤gI (C5 s1.l) i;omega,by show gI (C5 s1.l) i<(us.length:Int);omega⟩,?_⟩;conv=>whnf
       refine J7 hg2 rfl (by show 0+(gI (C5 s1.l) i).toNat<us.length;omega) (v:=eB ((A2X b.ms.used ((C5 s1.l).take i)).getD (gI (C5 s1.l) i).toNat default)) (by show g (0+(gI (C5 s1.l) i).toNat)=_;rw [Nat.zero_add];exact hg _ hr.2) (by rfl) ?_
       have hR2:=hBA.write (y':=⟨4,1,us.length,G6 g (0+(gI (C5 s1.l) i).toNat) (eB true)⟩) hR (A0 ..)
       rw [B8] at hR2
       have hgn:∀ k,k<us.length→G6 g (0+(gI (C5 s1.l) i).toNat) (eB true) k=eB ((A2X b.ms.used ((C5 s1.l).take (i+1))).getD k default):=fun k hk=>by
        have e:A2X b.ms.used ((C5 s1.l).take (i+1))=(A2X b.ms.used ((C5 s1.l).take i)).set (gI (C5 s1.l) i).toNat true:=P1 hi' _ _
        rw [e,Nat.zero_add,A4Y (by rw [B6i,hI.ok.ok.len];exact hr.2)]
        by_cases ej:k=(gI (C5 s1.l) i).toNat
        ·rw [if_pos ej,ej,A5]
        ·rw [if_neg ej,F4 ej];exact hg k hk
       conv=>whnf
       refine ⟨[4,5,6,11,12,13],[],[],.qui 0 (.qui 1 (.qui 2 (.qui 3 (.qui 7 (.qui 8 (.qui 9 (.qui 10 (.two 4 11 (.two 5 11 (.two 6 11 (.gen 11 (.gen 12 (.gen 13 (.qui 14 (.qui 15 .done))))) (.two 6 12 (.gen 12 (.gen 13 (.qui 14 (.qui 15 .done)))) (.gen 6 (.gen 13 (.qui 14 (.qui 15 .done)))))) (.two 5 12 (.two 6 12 (.gen 12 (.gen 13 (.qui 14 (.qui 15 .done)))) (.gen 6 (.gen 13 (.qui 14 (.qui 15 .done))))) (.gen 5 (.gen 6 (.gen 13 (.qui 14 (.qui 15 .done))))))) (.two 4 12 (.two 5 12 (.two 6 12 (.gen 12 (.gen 13 (.qui 14 (.qui 15 .done)))) (.gen 6 (.gen 13 (.qui 14 (.qui 15 .done))))) (.gen 5 (.gen 6 (.gen 13 (.qui 14 (.qui 15 .done)))))) (.gen 4 (.gen 5 (.gen 6 (.gen 13 (.qui 14 (.qui 15 .done))))))))))))))),by kernel_rfl,?_⟩;conv=>whnf
       refine ⟨rfl,⟨by omega,by omega⟩,?_⟩;conv=>whnf
       refine ⟨rfl,⟨by omega,by omega⟩,?_⟩;conv=>whnf
       repeat' (refine And.intro ?_ ?_<;>(conv=>whnf))
       all_goals refine RA.appA (all:=b.taken++(C5 s1.l).take i) (ls:=ls++X.take i) (y:=gI (C5 s1.l) i) hR2 rfl rfl (by rw [List.length_append,List.length_take];omega) (fun sva' t' hR3=>?_)
       all_goals (conv=>whnf)
       all_goals refine RA.appL (all:=b.taken++(C5 s1.l).take i++[gI (C5 s1.l) i]) (ls:=ls++X.take i) (y:=gI X i) hR3 rfl rfl (by rw [List.length_append,List.length_take];omega) (fun svl' t'' hR4=>?_)
       all_goals (conv=>whnf)
       all_goals refine ⟨rfl,?_⟩
       all_goals (conv=>whnf)
       all_goals exact nx hi' ⟨sva',svl',G6 g (0+(gI (C5 s1.l) i).toNat) (eB true),by rw [C2 (by omega)],by rw [tk _ hi',tk _ (by omega),←List.append_assoc,←List.append_assoc];exact hR4,hgn⟩
def Z4 (l:List Int):List Int:=l.foldl (fun a x=>if x∈a then a else a++[x]) []
theorem B5S (l:List Int) (x:Int):Z4 (l++[x])=if x∈Z4 l then Z4 l else Z4 l++[x]:=by
 unfold Z4;rw [List.foldl_append];rfl
theorem A9D (l:List Int):(Z4 l).Nodup∧∀ x,x∈Z4 l↔x∈l:=by
 have:∀ (l a:List Int),a.Nodup→(l.foldl (fun a x=>if x∈a then a else a++[x]) a).Nodup∧∀ x,x∈l.foldl (fun a x=>if x∈a then a else a++[x]) a↔x∈a∨x∈l:=by
  intro l
  induction l with
  | nil=>intro a h;exact ⟨h,fun x=>by simp⟩
  | cons y l ih =>
   intro a h
   rw [List.foldl_cons]
   split
   ·rename_i hy
    obtain ⟨h1,h2⟩:=ih a h
    refine ⟨h1,fun x=>?_⟩
    rw [h2,List.mem_cons]
    constructor
    ·rintro (h3 | h3)
     ·exact .inl h3
     ·exact .inr (.inr h3)
    ·rintro (h3 | rfl | h3)
     ·exact .inl h3
     ·exact .inl hy
     ·exact .inr h3
   ·rename_i hy
    obtain ⟨h1,h2⟩:=ih (a++[y]) (List.nodup_append.2 ⟨h,by simp,fun p hp q hq e=>by rw [List.mem_singleton] at hq;subst hq;subst e;exact hy hp⟩)
    refine ⟨h1,fun x=>?_⟩
    rw [h2,List.mem_append,List.mem_singleton,List.mem_cons,or_assoc]
 obtain ⟨h1,h2⟩:=this l [] List.nodup_nil
 exact ⟨h1,fun x=>by rw [show x∈Z4 l↔x∈([]:List Int)∨x∈l from h2 x];simp⟩
theorem B3F (l:List Int):U3 l=((List.range l.length).filter fun k=>k==0||gI l k != gI l (k - 1)).map (gI l):=by
 unfold U3 Go.Lib.compactUpTo
 have hg:∀ k,k<l.length→l.toArray[k]! = gI l k:=fun k hk=>by rw [getElem!_pos _ k (by simpa using hk)];simp [gI,hk]
 have hf:(List.range l.length).filter (Go.Lib.keeps l.toArray)=(List.range l.length).filter fun k=>k==0||gI l k != gI l (k - 1):=by
  refine List.filter_congr fun k hk=>?_
  have:=List.mem_range.1 hk
  unfold Go.Lib.keeps
  rw [hg k this,hg (k - 1) (by omega)]
  rw [←Bool.coe_iff_coe,decide_eq_true_eq,Bool.or_eq_true,beq_iff_eq,bne_iff_ne]
 rw [hf]
 exact List.map_congr_left fun k hk=>hg k (List.mem_range.1 (List.mem_filter.1 hk).1)
theorem B5p {l:List Int} (hs:l.Pairwise (·≤·)):(U3 l).Nodup∧∀ x,x∈U3 l↔x∈l:=by
 refine ⟨?_,fun x=>⟨B1f,fun hx=>?_⟩⟩
 ·rw [B3F]
  refine List.Pairwise.map _ (fun a b h=>h) ?_ 
  refine List.Pairwise.imp_of_mem (R:=(·<·)) ?_ ((List.pairwise_lt_range (n:=l.length)).filter _)
  intro a b ha hb hab
  obtain ⟨h1,h2⟩:=List.mem_filter.1 hb
  have h3:=List.mem_range.1 h1
  rw [Bool.or_eq_true,beq_iff_eq,bne_iff_ne] at h2
  have h4:gI l (b - 1)≤gI l b:=B1w hs (by omega) h3
  have h5:gI l a≤gI l (b - 1):=by
   rcases Nat.eq_or_lt_of_le (show a≤b - 1 by omega) with e | e
   ·rw [e];exact Int.le_refl _
   ·exact B1w hs e (by omega)
  show gI l a≠gI l b
  rcases h2 with h2 | h2<;>omega
 ·rw [B3F,List.mem_map]
  obtain ⟨k,hk,rfl⟩:=F2 hx
  induction k with
  | zero=>exact ⟨0,List.mem_filter.2 ⟨List.mem_range.2 hk,rfl⟩,rfl⟩
  | succ k ih =>
   by_cases e:gI l (k+1)=gI l k
   ·have:=ih (by omega) (by rw [show l.getD k default=l.getD (k+1) default from e.symm];exact hx)
    obtain ⟨j,h1,h2⟩:=this
    exact ⟨j,h1,h2.trans e.symm⟩
   ·exact ⟨k+1,List.mem_filter.2 ⟨List.mem_range.2 hk,by rw [Bool.or_eq_true,bne_iff_ne];exact .inr e⟩,rfl⟩
theorem C0s (us:List B7) (l:List Int):A0Z us (U3 (C5 l))=A0Z us (Z4 l):=by
 obtain ⟨h1,h2⟩:=B5p (B4N l)
 obtain ⟨h3,h4⟩:=A9D l
 have hp:(U3 (C5 l)).Perm (Z4 l):=(List.perm_ext_iff_of_nodup h1 h3).2 fun x=>by rw [h2,h4,R4]
 exact A5E (hp.map _)
theorem B8l (l:List Int):(Z4 l).length≤l.length:=by
 have:∀ (l a:List Int),(l.foldl (fun a x=>if x∈a then a else a++[x]) a).length≤a.length+l.length:=by
  intro l
  induction l with
  | nil=>intro a;simp
  | cons y l ih =>
   intro a
   rw [List.foldl_cons]
   split
   ·have:=ih a;rw [List.length_cons];omega
   ·have:=ih (a++[y]);rw [List.length_append,List.length_cons,List.length_nil] at this;rw [List.length_cons];omega
 have h:=this l []
 rw [List.length_nil,Nat.zero_add] at h;exact h
structure PSm (p:B2):Prop where
 sm:A0I p
 right:G2 p=true
 fit:O0 p
set_option maxHeartbeats 400000 in
theorem C4C (items:List Ab.Item) (us:List B7) (pr:B2) (hp:PSm pr) (hk:pr.kind≠7) (hu:A5J items us) (st:St) :
  S P 91 [B9 pr,C9 us,B1 4 E5 items] st fun v st'=>(∃ x,v=.tuple [C9 x,eI (X2 items us pr).2]∧(0<(X2 items us pr).2→x=(X2 items us pr).1))∧st'=st:=by
 have ok:=A0U hp.right
 have hul:=hu.ok.len
 have hB:=ok.bun
 by_cases h4:pr.kind=4
 ·have hW:X2 items us pr=A0m items us pr:=by unfold X2;rw [if_pos h4]
  rw [hW]
  obtain ⟨hbn,hbs⟩:=hB h4
  have hn8:=hbn.n8
  have hpl:(O8 items us pr).length=pr.parts.length:=List.length_map ..
  have hbP:A0m items us pr=if A0Z us (Z4 (Y9 items us pr pr.parts.length))<pr.least then ([],0) else O9 pr us (O8 items us pr):=by unfold A0m;rw [C0s]
  refine A2E ?_
  refine A7 [3] C0 mixed Tryz.func91 (by rfl) rfl rfl rfl ?_;conv=>whnf
  rw [show (pr.kind != 4)=false from by rw [h4];rfl];conv=>whnf
  refine mkO rfl rfl rfl (by show 1 * us.length≤_;omega) (by omega) (by rfl) (fun bs hbs0=>?_);conv=>whnf
  refine lp pr.parts.length [1,2,3,9,10,11,12] (fun i vs s=>∃ sv g,vs=[C9 us,B1 4 E5 items,.fptr (B9 pr) 0,sv,.own 1 bs 0 us.length,eI (A0Z us (Z4 (Y9 items us pr i))),eI i]∧G4 29 1 B6 ((O8 items us pr).take i) (upd st bs ⟨4,1,us.length,g⟩) sv s∧∀ k,k<us.length→g k=eB (decide ((k:Int)∈Y9 items us pr i))) ?_ ?_
  ·conv=>whnf
   exact ⟨.emp,_,rfl,G4.start _ _ _ _,fun k hk=>by rw [show Y9 items us pr 0=[] from rfl];simp;rfl⟩
  ·rintro i vs s hi ⟨sv,g,rfl,hc,hg⟩
   conv=>whnf
   cases hd:decide ((i:Int)<(pr.parts.length:Int))
   ·obtain rfl:=D7 hd hi
    rw [←hpl,List.take_length] at hc;conv=>whnf
    refine C4 (fun h1=>?_) (fun h1=>?_)<;>rw [h1]
    ·have:=of_decide_eq_true h1
     rw [if_pos (by omega)] at hbP;conv=>whnf
     exact ⟨⟨us,by rw [hbP];rfl,fun h=>by rw [hbP] at h;exact absurd h (by decide)⟩,((F3.refl st).upd hbs0).trans hc.sup⟩
    ·have:=of_decide_eq_false h1
     rw [if_neg (by omega)] at hbP;conv=>whnf
     refine I7 (B4.cons (t:=s) (B4.keep _ _) (B4.cons (t:=s) (B4.keep _ _) hc.shift)) (B3 (B8w pr us (O8 items us pr) hp.sm hp.right h4 hbn hu.ok hpl (fun x hx=>by obtain ⟨q,_,rfl⟩:=List.mem_map.1 hx;exact A0O _ _ _) _) ?_);conv=>whnf
     exact ⟨⟨_,by rw [hbP];rfl,fun _=>by rw [hbP]⟩,(F3.refl st).upd hbs0⟩
   ·have hi':=H0 hd
    have hsc:(pr.parts.getD (i:Int).toNat default).scope.skus.length≤20∧(pr.parts.getD (i:Int).toNat default).scope.cats.length≤20:=hbs _ (B5 hi')
    have hsu:=A7z items us pr hi'
    have hAl:=A8X items us pr i hi
    have hAm:=fun {x} (hx:x∈Y9 items us pr i)=>A8Y hx
    have hml:=A2e (pr.parts.getD (i:Int).toNat default).scope items us us.length
    have hmo:=A0O (pr.parts.getD (i:Int).toNat default).scope items us
    have hpt:(O8 items us pr).take (i+1)=(O8 items us pr).take i++[I3 (pr.parts.getD (i:Int).toNat default).scope items us us.length]:=by
     rw [L2 (by omega)];congr 2
     exact E2 (fun x:Q0=>I3 x.scope items us us.length) pr.parts hi'
    rw [show I3 (pr.parts.getD i default).scope items us us.length=I3 (pr.parts.getD (i:Int).toNat default).scope items us us.length from rfl] at hsu
    have h8:i * us.length≤7 * 100000:=Nat.mul_le_mul (by omega) hul
    conv=>whnf
    refine ⟨rfl,⟨by omega,by omega⟩,?_⟩;conv=>whnf
    refine B3 (B7n us items (pr.parts.getD (i:Int).toNat default).scope (by omega) (by omega) hul hu.line _) ?_
    generalize I3 (pr.parts.getD (i:Int).toNat default).scope items us us.length=m at *
    conv=>whnf
    refine G4.app (q:=r29) (y:=m) rfl rfl rfl rfl rfl rfl (by show (_+1) * 24≤140737488355328;rw [List.length_take];omega) hc (fun sv s hc=>?_)
    rw [←hpt] at hc;conv=>whnf
    refine lp m.length [1,2,3,9,10,11,12,13,14] (fun k vs s=>∃ g,vs=[C9 us,B1 4 E5 items,.fptr (B9 pr) 0,sv,.own 1 bs 0 us.length,eI (A0Z us (Z4 (Y9 items us pr i++m.take k))),eI i,B6 m,eI k]∧G4 29 1 B6 ((O8 items us pr).take (i+1)) (upd st bs ⟨4,1,us.length,g⟩) sv s∧∀ j,j<us.length→g j=eB (decide ((j:Int)∈Y9 items us pr i++m.take k))) ?_ ?_
    ·conv=>whnf
     exact ⟨g,by rw [List.take_zero,List.append_nil];rfl,hc,by rw [List.take_zero,List.append_nil];exact hg⟩
    ·clear hc hg
     rintro k vs s hk ⟨g,rfl,hc,hg⟩
     conv=>whnf
     cases hd2:decide ((k:Int)<(m.length:Int))
     ·obtain rfl:=D7 hd2 hk
      rw [List.take_length,←hsu] at hg;conv=>whnf
      refine ⟨rfl,?_⟩;conv=>whnf
      exact nx hi' ⟨sv,g,by rw [C2 (by omega),List.take_length,←hsu],hc,hg⟩
     ·have hk':=H0 hd2
      have hr:0≤m.getD (k:Int).toNat default∧(m.getD (k:Int).toNat default).toNat<us.length:=hmo.rng k hk'
      have hbk:=hc.sup bs _ (A0 ..)
      have hP:Y9 items us pr i++m.take (k+1)=(Y9 items us pr i++m.take k)++[m.getD (k:Int).toNat default]:=by rw [L2 hk',List.append_assoc];rfl
      have hgk:g (0+(m.getD (k:Int).toNat default).toNat)=eB (decide (m.getD (k:Int).toNat default∈Y9 items us pr i++m.take k)):=by
       rw [Nat.zero_add,hg _ hr.2];congr 2;rw [Int.toNat_of_nonneg hr.1]
      have hmem:∀ x∈Y9 items us pr i++m.take k,0≤x∧x.toNat<us.length:=fun x hx=>by
       rcases List.mem_append.1 hx with hx | hx
       ·exact A8Y hx
       ·obtain ⟨j,hj,rfl⟩:=F2 (List.take_subset _ _ hx);exact hmo.rng j hj
      obtain ⟨o1,o2⟩:=A9D (Y9 items us pr i++m.take k)
      have hcb:=A0y hu.ok (Z4 (Y9 items us pr i++m.take k)) (fun x hx=>hmem x ((o2 x).1 hx))
      have hol:=B8l (Y9 items us pr i++m.take k)
      rw [List.length_append,List.length_take] at hol
      have hcl:A0Z us (Z4 (Y9 items us pr i++m.take k))=H1 us (Z4 (Y9 items us pr i++m.take k)):=rfl
      have hsn:=B5S (Y9 items us pr i++m.take k) (m.getD (k:Int).toNat default)
      have hdm:decide (m.getD (k:Int).toNat default∈Z4 (Y9 items us pr i++m.take k))=decide (m.getD (k:Int).toNat default∈Y9 items us pr i++m.take k):=decide_eq_decide.2 (o2 _)
      have hn0:0≤(gU us (m.getD (k:Int).toNat default).toNat).net:=hu.ok.at0 _
      have hn1:(gU us (m.getD (k:Int).toNat default).toNat).net≤10000000000000:=hu.ok.le (B5 hr.2)
      generalize Y9 items us pr i++m.take k=A at *
      conv=>whnf
      refine ⟨rfl,⟨by omega,by omega⟩,?_⟩;conv=>whnf
      refine ⟨rfl,⟨by omega,by omega⟩,?_⟩;conv=>whnf
      refine E9 hbk rfl (by omega) hgk ?_;conv=>whnf
      refine C4 (fun h5=>?_) (fun h5=>?_)<;>rw [h5]
      ·have hnot:¬ m.getD (k:Int).toNat default∈A:=by simpa using h5
       rw [if_neg (fun h=>hnot ((o2 _).1 h))] at hsn
       have hadd:A0Z us (Z4 (A++[m.getD (k:Int).toNat default]))=A0Z us (Z4 A)+(gU us (m.getD (k:Int).toNat default).toNat).net:=by
        rw [hsn];exact B1h us _ _
       have w:IntKind.i64.wrap (A0Z us (Z4 A)+(gU us (m.getD (k:Int).toNat default).toNat).net)=A0Z us (Z4 (A++[m.getD (k:Int).toNat default])):=by rw [hadd];exact A8 (by omega) (by omega)
       conv=>whnf
       refine ⟨rfl,⟨by omega,by omega⟩,?_⟩;conv=>whnf
       refine ⟨rfl,⟨by omega,by omega⟩,?_⟩;conv=>whnf
       refine J7 hbk rfl (by omega) hgk (by rfl) ?_
       have hc2:=H9.write hc (y':=⟨4,1,us.length,G6 g (0+(m.getD (k:Int).toNat default).toNat) (eB true)⟩) (A0 ..)
       rw [B8] at hc2;conv=>whnf
       refine ⟨rfl,⟨by omega,by omega⟩,?_⟩;conv=>whnf
       refine ⟨rfl,⟨by omega,by omega⟩,?_⟩;conv=>whnf
       refine ⟨rfl,?_⟩;conv=>whnf
       refine nx hk' ⟨G6 g (0+(m.getD (k:Int).toNat default).toNat) (eB true),by rw [C2 (by omega),hP,←w],hc2,fun j hj=>?_⟩
       rw [hP,Nat.zero_add]
       by_cases ej:j=(m.getD (k:Int).toNat default).toNat
       ·rw [ej,A5,decide_eq_true (by rw [List.mem_append,List.mem_singleton];right;omega)]
       ·rw [F4 ej,hg j hj]
        congr 1
        refine decide_eq_decide.2 ?_
        rw [List.mem_append,List.mem_singleton]
        exact ⟨.inl,fun h=>h.resolve_right (by omega)⟩
      ·have hin:m.getD (k:Int).toNat default∈A:=by simpa using h5
       rw [if_pos ((o2 _).2 hin)] at hsn;conv=>whnf
       refine ⟨rfl,?_⟩;conv=>whnf
       refine nx hk' ⟨g,by rw [C2 (by omega),hP,hsn],hc,fun j hj=>?_⟩
       rw [hP,hg j hj]
       congr 1
       refine decide_eq_decide.2 ?_
       rw [List.mem_append,List.mem_singleton]
       exact ⟨.inl,fun h=>h.elim id (fun e=>by rw [e];exact hin)⟩
 ·have hW:X2 items us pr=A1q items us pr:=by unfold X2;rw [if_neg h4]
  have hmo:=A0O pr.scope items us
  have hml:=A2e pr.scope items us us.length
  have hS:A1q items us pr=if A0Z us (I3 pr.scope items us us.length)<pr.least then ([],0) else if pr.kind=3 then S9 pr us (I3 pr.scope items us us.length) else W9 pr us (I3 pr.scope items us us.length):=rfl
  obtain ⟨hn0,hns⟩:=A9C hu.ok hmo
  rw [hW]
  refine A7 [3] C0 mixed Tryz.func91 (by rfl) rfl rfl rfl ?_;conv=>whnf
  rw [show (pr.kind != 4)=true from bne_iff_ne.2 h4];conv=>whnf
  refine B3 (B7n us items pr.scope (by have:=ok.skus;omega) (by have:=ok.cats;omega) hul hu.line _) ?_
  generalize I3 pr.scope items us us.length=m at *
  conv=>whnf
  refine ⟨[],[],List.range 7,by kernel_rfl,?_⟩;conv=>whnf
  refine ⟨_,D2 (A5z us m (by omega) hmo.rng _),?_⟩;conv=>whnf
  refine ⟨_,D2 (B0e (E8 us m) (by rw [A3P];omega) hn0 (by omega) _),?_⟩;conv=>whnf
  refine C4 (fun h1=>?_) (fun h1=>?_)<;>rw [h1]
  ·have h2:A0Z us m<pr.least:=of_decide_eq_true h1
   rw [if_pos h2] at hS;conv=>whnf
   exact ⟨⟨us,by rw [hS];rfl,fun h=>by rw [hS] at h;exact absurd h (by decide)⟩,rfl⟩
  ·have h2:¬ A0Z us m<pr.least:=fun h=>absurd h (Int.not_lt.2 (Int.not_lt.1 (of_decide_eq_false h1)))
   rw [if_neg h2] at hS;conv=>whnf
   by_cases h3:pr.kind=3
   ·rw [if_pos h3] at hS
    rw [show (pr.kind==3)=true from beq_iff_eq.2 h3];conv=>whnf
    refine B3 (B8x pr us m hp.sm hp.right h3 (ok.buy h3) hu.ok hmo _) ?_;conv=>whnf
    exact ⟨⟨_,by rw [hS];rfl,fun _=>by rw [hS]⟩,rfl⟩
   ·rw [if_neg h3] at hS
    rw [show (pr.kind==3)=false from beq_false_of_ne h3];conv=>whnf
    refine B3 (C0I pr us m (ok.ask hp.fit (by have:=ok.kind;omega)) hp.sm hu.ok hmo _) ?_;conv=>whnf
    exact ⟨⟨_,by rw [hS];rfl,fun _=>by rw [hS]⟩,rfl⟩
theorem B4E (L:List E0) (g:E0) (hl:L.length≤1000) (sv:AV) (st:St) (h:(sv=.emp∧L=[])∨∃ b f,sv=.own 1 b 0 L.length∧st b=some ⟨9,1,L.length,f⟩∧∀ k,k<L.length→f k=eS (L.getD k default)) :
  S P 90 [sv,eS g] st fun v st'=>v=.bool (!K1 g&&L.any fun y=>y.toList==g.toList)∧st'=st:=by
 rcases h with ⟨rfl,rfl⟩ | ⟨b,f,rfl,hb,hf⟩
 ·refine A7 [] C0 mixed Tryz.func90 (by rfl) rfl rfl rfl ?_;conv=>whnf
  refine A5K [0,1,5] ?_;conv=>whnf
  intro I;conv=>whnf
  exact ⟨by simp [A8x],rfl⟩
 ·refine A7 [] C0 mixed Tryz.func90 (by rfl) rfl rfl rfl ?_;conv=>whnf
  refine lp L.length [0,1,5] (fun i vs s=>(∀ k,k<i→(!K1 g&&((L.getD k default).toList==g.toList))=false)∧vs=[.own 1 b 0 L.length,eS g,eI i]∧s=st) ?_ ?_
  ·conv=>whnf
   exact ⟨fun k hk=>absurd hk (by omega),rfl,rfl⟩
  ·rintro i vs st' hi ⟨hok,rfl,rfl⟩
   conv=>whnf
   cases hd:decide ((i:Int)<(L.length:Int))
   ·obtain rfl:=D7 hd hi
    conv=>whnf
    refine ⟨?_,rfl⟩
    have e:(!K1 g&&L.any fun y=>y.toList==g.toList)=false:=by
     cases hn:K1 g
     ·rw [Bool.not_false,Bool.true_and]
      refine List.any_eq_false.2 fun x hx=>?_
      obtain ⟨k,hk,rfl⟩:=F2 hx
      have:=hok k hk
      rw [hn,Bool.not_false,Bool.true_and] at this
      rw [this];simp
     ·rfl
    rw [e];rfl
   ·have hi':=H0 hd
    have hfi:f (0+(i:Int).toNat)=eS (L.getD (i:Int).toNat default):=by rw [Nat.zero_add];exact hf _ (by omega)
    have yes:=fun h=>L9 hok (i:=i) h
    have nl:K1 g=(g.toList==(⟨#[]⟩:E0).toList):=rfl
    conv=>whnf
    refine C4 (fun h1=>?_) (fun h1=>?_)<;>rw [h1]
    ·have hn:K1 g=false:=by rw [nl];simpa using h1
     conv=>whnf
     refine ⟨rfl,⟨by omega,by omega⟩,?_⟩;conv=>whnf
     refine E9 hb rfl (by omega) hfi ?_;conv=>whnf
     refine C4 (fun h2=>?_) (fun h2=>?_)<;>rw [h2]
     ·conv=>whnf
      refine ⟨?_,rfl⟩
      rw [hn,List.any_eq_true.2 ⟨_,B5 hi',h2⟩];rfl
     ·conv=>whnf
      refine ⟨rfl,?_⟩;conv=>whnf
      exact nx hi' ⟨yes (by rw [hn];exact h2),by rw [C2 (by omega)],rfl⟩
    ·have hn:K1 g=true:=by rw [nl];simpa using h1
     conv=>whnf
     refine ⟨rfl,?_⟩;conv=>whnf
     exact nx hi' ⟨yes (by rw [hn];rfl),by rw [C2 (by omega)],rfl⟩
end Go.Proofs.YtbajhapmlfbelaaGreat
