/- Part 28 of the proof: contracts of the functions that the law reaches -/
import Derived.Test.YtbajhapmlfbelaaGreatDe27
set_option maxRecDepth 100000
set_option linter.unusedVariables false
set_option linter.unusedSimpArgs false
namespace Go.Proofs.YtbajhapmlfbelaaGreat
open Go Go.Ab
attribute [local irreducible] upd del
structure B3p (l:List B2):Prop where
 few:l.length≤60
 right:∀ p∈l,G2 p=true
 ids:∀ i j,i<j→j<l.length→((l.getD i default).id.toList==(l.getD j default).id.toList)=false
theorem A2v {l:List B2} (h:promosC l=true):B3p l:=by
 unfold promosC J1 at h
 simp only [Bool.and_eq_true,decide_eq_true_eq,List.all_eq_true,List.mem_range] at h
 obtain ⟨h1,h2⟩:=h
 refine ⟨by omega,fun p hp=>?_,fun i j hij hj=>?_⟩
 ·obtain ⟨k,hk,rfl⟩:=F2 hp
  have:=h2 k hk
  unfold T1 at this
  rw [Bool.and_eq_true] at this;exact this.1
 ·have:=h2 j hj
  unfold T1 at this
  rw [Bool.and_eq_true,Bool.not_eq_true',List.any_eq_false] at this
  have h3:=this.2 (l.getD i default) (by
   have:(l.take j).getD i default=l.getD i default:=by rw [List.getD_eq_getElem?_getD,List.getD_eq_getElem?_getD,List.getElem?_take_of_lt hij]
   rw [←this]
   exact B5 (by rw [List.length_take];omega))
  simpa using h3
theorem A9Q {l:List B2} {i:Nat} (hi:i<l.length) (h:T1 l i (l.getD i default)=false):promosC l=false:=by
 unfold promosC
 rw [Bool.and_eq_false_iff]
 refine .inr (Bool.eq_false_iff.2 fun ha=>?_)
 unfold J1 at ha
 rw [List.all_eq_true] at ha
 have:=ha i (List.mem_range.2 hi)
 rw [this] at h;cases h
theorem B8y (l:List B2) (hn:l.length<9223372036854775807) (hs:∀ p∈l,A0I p) (st:St):S P 156 [B1 15 B9 l] st fun v st'=>v=.bool (promosC l)∧st'=st:=by
 refine A7 [] C0 mixed Tryz.func156 (by rfl) rfl rfl rfl ?_;conv=>whnf
 refine lp l.length [0,3] (fun i vs st'=>vs=[B1 15 B9 l,eI i]∧st'=st∧∀ k,k<i→T1 l k (l.getD k default)=true) ?_ ?_
 ·conv=>whnf
  exact ⟨rfl,rfl,fun k hk=>absurd hk (by omega)⟩
 ·rintro i vs st' hi ⟨rfl,rfl,hok⟩
  conv=>whnf
  cases h:decide ((i:Int)<(l.length:Int))
  ·obtain rfl:=D7 h hi
   conv=>whnf
   refine ⟨?_,rfl⟩
   show AV.bool _=AV.bool _
   unfold promosC
   rw [J2 hok,Bool.and_true]
  ·have hi':=H0 h
   have hm:l.getD (i:Int).toNat default∈l:=B5 hi'
   conv=>whnf
   refine ⟨rfl,⟨by omega,by omega⟩,?_⟩;conv=>whnf
   refine B3 (B4x (l.getD (i:Int).toNat default) (hs _ hm) _) ?_
   obtain ⟨b,hb⟩:∃ b,b=G2 (l.getD (i:Int).toNat default):=⟨_,rfl⟩
   rw [←hb];conv=>whnf
   refine C4 (fun h1=>?_) (fun h1=>?_)<;>rw [h1]
   ·conv=>whnf
    refine ⟨?_,rfl⟩
    have:promosC l=false:=A9Q hi' (by
     unfold T1
     rw [show G2 (l.getD i default)=false by rw [show i=(i:Int).toNat from rfl,←hb];simpa using h1];rfl)
    rw [this];rfl
   have hp:G2 (l.getD i default)=true:=by rw [show i=(i:Int).toNat from rfl,←hb];simpa using h1
   conv=>whnf
   refine lp i [0,3,4] (fun j vs s=>vs=[B1 15 B9 l,eI i,eI j]∧s=st'∧∀ k,k<j→((l.getD k default).id.toList==(l.getD i default).id.toList)=false) ?_ ?_
   ·conv=>whnf
    exact ⟨rfl,rfl,fun k hk=>absurd hk (by omega)⟩
   ·rintro j vs s hj ⟨rfl,rfl,hne⟩
    conv=>whnf
    cases h2:decide ((j:Int)<(i:Int))
    ·obtain rfl:=D7 h2 hj
     conv=>whnf
     refine ⟨rfl,?_⟩;conv=>whnf
     refine nx hi' ⟨by rw [C2 (by omega)],rfl,fun k hk=>?_⟩
     by_cases e:k<j
     ·exact hok k e
     ·obtain rfl:k=j:=by omega
      unfold T1
      rw [hp,Bool.true_and,Bool.not_eq_true',List.any_eq_false]
      intro x hx
      obtain ⟨m,hm',rfl⟩:=F2 hx
      rw [List.length_take] at hm'
      have e2:(l.take k).getD m default=l.getD m default:=by rw [List.getD_eq_getElem?_getD,List.getD_eq_getElem?_getD,List.getElem?_take_of_lt (by omega)]
      rw [e2,hne m (by omega)];exact Bool.false_ne_true
    ·have hj':=H0 h2
     conv=>whnf
     refine ⟨[],[],List.range 11,by kernel_rfl,?_⟩;conv=>whnf
     refine ⟨rfl,⟨by omega,by omega⟩,?_⟩;conv=>whnf
     refine ⟨rfl,⟨by omega,by omega⟩,?_⟩;conv=>whnf
     refine C4 (fun h3=>?_) (fun h3=>?_)<;>rw [h3]
     ·conv=>whnf
      refine ⟨?_,rfl⟩
      have h4:((l.getD j default).id.toList==(l.getD i default).id.toList)=true:=h3
      have:promosC l=false:=A9Q hi' (by
       unfold T1
       rw [hp,Bool.true_and,Bool.not_eq_false']
       refine List.any_eq_true.2 ⟨l.getD j default,?_,h4⟩
       have e2:(l.take i).getD j default=l.getD j default:=by rw [List.getD_eq_getElem?_getD,List.getD_eq_getElem?_getD,List.getElem?_take_of_lt (by omega)]
       rw [←e2]
       exact B5 (by rw [List.length_take];omega))
      rw [this];rfl
     have h4:((l.getD j default).id.toList==(l.getD i default).id.toList)=false:=h3
     conv=>whnf
     refine ⟨rfl,?_⟩;conv=>whnf
     exact nx hj' ⟨by rw [C2 (by omega)],rfl,fun k hk=>by
      by_cases e:k<j
      ·exact hne k e
      ·obtain rfl:k=j:=by omega
       exact h4⟩
structure A0l (r:F9):Prop where
 n:Sm r.items.length
 items:∀ x∈r.items,Sm x.sku.size∧Sm x.cat.size
 promos:∀ p∈r.promos,A0I p
 tax:B6I r.tax
 order:Sm r.policy.order.length
 credit:Sm r.policy.credit.length
theorem B4y (r:F9) (hn:r.promos.length<9223372036854775807) (hs:A0l r) (st:St):S P 84 [I8 r] st fun v st'=>v=.bool (J0 r)∧st'=st:=by
 obtain ⟨H,hH⟩:∃ H:Bool,H=J0 r:=⟨_,rfl⟩
 rw [←hH]
 unfold J0 A8m A5x at hH
 have n1:=C0L r.items hs.n hs.items st
 have n2:=B8y r.promos hn hs.promos st
 have n3:=C4B r.tax hs.tax st
 have n4:=A1L r.ship.fee 1000000000 st
 have n5:=A1L r.ship.free 10000000000000 st
 have n6:=A1L r.policy.window 100000 st
 have n7:=A1L r.policy.grace 100000 st
 have n8:=A1L r.policy.restock 10000 st
 have n9:=B4B r.policy.order hs.order st
 have n10:=B4B r.policy.credit hs.credit st
 generalize A0q r.items=b1 at *
 generalize promosC r.promos=b2 at *
 generalize A6u r.tax=b3 at *
 generalize Q6 0 1000000000 r.ship.fee=b4 at *
 generalize Q6 0 10000000000000 r.ship.free=b5 at *
 generalize Q6 0 100000 r.policy.window=b6 at *
 generalize Q6 0 100000 r.policy.grace=b7 at *
 generalize Q6 0 10000 r.policy.restock=b8 at *
 generalize A0r r.policy.order=b9 at *
 generalize A0r r.policy.credit=b10 at *
 refine A7 [1,3] C0 mixed Tryz.func84 (by rfl) rfl rfl rfl ?_
 repeat' ((conv=>whnf);first | refine B3 n1 ?_ | refine B3 n2 ?_ | refine B3 n3 ?_ | refine B3 n4 ?_ | refine B3 n5 ?_ | refine B3 n6 ?_ | refine B3 n7 ?_ | refine B3 n8 ?_ | refine B3 n9 ?_ | refine B3 n10 ?_ | (refine C4 (fun h=>?_) (fun h=>?_)<;>rw [h]))
 all_goals (conv=>whnf)
 all_goals (refine ⟨?_,rfl⟩;show AV.bool _=AV.bool _;congr 1;clear n1 n2 n3 n4 n5 n6 n7 n8 n9 n10)
 all_goals (simp only [*,Bool.true_and,Bool.false_and,Bool.and_true,Bool.and_false,Bool.or_true,Bool.or_false,Bool.true_or,Bool.false_or,Bool.not_true,Bool.not_false,Bool.not_not])
theorem B6b (r:F9) (hs:A0l r) (hC:J0 r=true) (st:St):S P 84 [I8 r] st fun v st'=>v=.bool true∧st'=st:=by
 have h:=B4y r (by
  unfold J0 at hC
  simp only [Bool.and_eq_true] at hC
  have:=(A2v hC.1.1.1.2).few;omega) hs st
 rw [hC] at h;exact h
theorem C0K (l:List E0) (hl:Sm l.length) (hs:∀ s∈l,Sm s.size) (st:St):S P 85 [D6 l] st fun v st'=>v=.bool (R9 l)∧st'=st:=by
 have e:R9 l=(A0b l&&decide ((l.length:Int)≤4)):=by
  unfold R9 A0b
  generalize decide ((l.length:Int)≤4)=a
  generalize Y2 l=b
  generalize (l.any fun s=>!F1 s)=c
  cases a<;>cases b<;>cases c<;>rfl
 rw [e]
 refine A7 [] C0 mixed Tryz.func85 (by rfl) rfl rfl rfl ?_;conv=>whnf
 refine B3 (B0c l 4 hl hs st) ?_;conv=>whnf
 exact ⟨rfl,rfl⟩
def P2 (l:List B2) (codes:List E0):List Int:=(places l codes l.length).mergeSort fun x y=>!Z9 (D9 l y) (D9 l x)
theorem W5 (l:List B2) (codes:List E0):(P2 l codes).Perm (places l codes l.length):=List.mergeSort_perm ..
theorem C0z (l:List B2) (codes:List E0):(P2 l codes).Pairwise (A3e l):=by
 have:=List.pairwise_mergeSort (le:=fun x y:Int=>!Z9 (D9 l y) (D9 l x)) (fun a b c h1 h2=>by simp only [Bool.not_eq_true'] at *;exact A6Y h1 h2) (fun a b=>by
  cases h:Z9 (D9 l b) (D9 l a) with
  | false=>rfl
  | true=>rw [A7Y h];rfl) (places l codes l.length)
 exact this.imp (fun h=>by simpa [A3e] using h)
theorem B5X {l:List B2} (ok:B3p l) {x y:Int} (hx:0≤x∧x.toNat<l.length) (hy:0≤y∧y.toNat<l.length) (h1:A3e l x y) (h2:A3e l y x):x=y:=by
 unfold A3e at h1 h2
 rw [←Bool.not_eq_true,A2k] at h1 h2
 have e:(D9 l x).prio=(D9 l y).prio:=by
  have a:¬(D9 l y).prio>(D9 l x).prio:=fun h=>h1 (.inl h)
  have b:¬(D9 l x).prio>(D9 l y).prio:=fun h=>h2 (.inl h)
  omega
 have a:slt (D9 l y).id (D9 l x).id=false:=by rw [←Bool.not_eq_true];exact fun h=>h1 (.inr ⟨e.symm,h⟩)
 have b:slt (D9 l x).id (D9 l y).id=false:=by rw [←Bool.not_eq_true];exact fun h=>h2 (.inr ⟨e,h⟩)
 have c:=A5C a b
 rcases Nat.lt_trichotomy x.toNat y.toNat with h | h | h
 ·have:=ok.ids _ _ h hy.2
  rw [beq_eq_false_iff_ne] at this
  exact absurd c.symm this
 ·omega
 ·have:=ok.ids _ _ h hx.2
  rw [beq_eq_false_iff_ne] at this
  exact absurd c this
theorem B4e {l:List B2} (hC:promosC l=true) {codes:List E0} {o:List Int} (h1:o.Perm (places l codes l.length)) (h2:o.Pairwise (A3e l)):o=P2 l codes:=by
 refine (h1.trans (W5 l codes).symm).eq_of_pairwise (le:=A3e l) (fun a b ha hb h3 h4=>?_) h2 (C0z l codes)
 exact B5X (A2v hC) (T9 (h1.mem_iff.1 ha)) (T9 ((W5 l codes).mem_iff.1 hb)) h3 h4
theorem B8B (l:List B2) (codes:List E0) (hC:promosC l=true) (hc:Sm codes.length) (st:St):S P 89 [B1 15 B9 l,D6 codes] st fun v st'=>v=B6 (P2 l codes)∧st'=st :=
 (C0R l codes (by have:=(A2v hC).few;omega) hc st).mono fun v st' ⟨⟨o,h1,h2,h3⟩,h4⟩=>⟨by rw [h3,B4e hC h1 h2],h4⟩
theorem A4U {l:List B2} (hC:promosC l=true) {codes:List E0} {o:List Int} (ho:A8w l codes o):L8 l o=P2 l codes:=by
 refine B4e hC ((A7T l o).trans ho.1) ?_
 refine List.Pairwise.map _ (fun a b h=>h) (R:=fun a b:QE=>A3e l (gI o a.2.toNat) (gI o b.2.toNat)) ?_
 refine (A5T l o).imp_of_mem fun {a b} ha hb h=>?_
 have h1:=A3U ha
 have h2:=A3U hb
 obtain ⟨i,hi,rfl⟩:=List.mem_map.1 ((A0E l o).mem_iff.1 ha)
 obtain ⟨j,hj,rfl⟩:=List.mem_map.1 ((A0E l o).mem_iff.1 hb)
 rw [U1] at h
 simp only [A9W,Int.toNat_natCast] at h h1 h2 ⊢
 unfold A3e
 rw [←Bool.not_eq_true,A2k]
 rintro (h3 | ⟨h3,h4⟩)
 ·exact h (.inl h3)
 ·rcases Nat.lt_trichotomy i j with e | e | e
  ·have:=ho.2 i j (Nat.zero_le _) e h2.2
   unfold C2u at this
   rw [this] at h4;cases h4
  ·subst e;rw [A3W] at h4;cases h4
  ·exact h (.inr ⟨h3,by omega⟩)
theorem ROut.own {R:St→St→Prop} {ty e n:Nat} {fo:Nat→AV} {s t:St} {sv:AV} (h:ROut R ty e fo (n+1) s sv t):∃ b,sv=.own e b 0 (n+1):=by
 obtain ⟨s0,⟨h1,_⟩ | ⟨_,b,_,_,h1,_⟩,h2⟩:=h
 ·cases h1
 ·exact ⟨b,h1⟩
theorem RD.wr {dl:List A1P} {gr:List E0} {dv gv:AV} {s t:St} {b:Nat} {y y':Q3} (h:RD dl gr dv gv s t) (hb:s b=some y):RD dl gr dv gv (upd s b y') (upd t b y'):=(A2F dl gr dv gv).write h hb
theorem RD.sup {dl:List A1P} {gr:List E0} {dv gv:AV} {s t:St} (h:RD dl gr dv gv s t):F3 s t:=(A2F dl gr dv gv).sup h
theorem RD.start (s:St):RD [] [] .emp .emp s s:=ROut.start (ROut.start (F3.refl s) _ _ _) _ _ _
theorem RD.appG {dl:List A1P} {gr:List E0} {dv gv:AV} {s t:St} {y:E0} {x:AV} {k:KK} {g:Nat→AV} (h:RD dl gr dv gv s t) (hs:Y5 1 t x=some (1,g)) (hg:g 0=eS y) (hb:gr.length≤1000)
  (hk:∀ gv' t',RD dl (gr++[y]) dv gv' s t'→k gv' t'):A5h T 34 gv x t k:=by
 obtain ⟨s0,hc,h⟩:=h
 refine ROut.app (q:=r9) (f:=A5Q (gr++[y])) C8 rfl rfl rfl rfl hs (by rw [hg];simp only [A5Q,A6T]) (by show (gr.length+1) * 16≤140737488355328;omega) (ROut.congr h fun k hk=>by simp only [A5Q];rw [A0g hk]) (fun sv' t' h'=>hk sv' t' ⟨s0,hc,?_⟩)
 show ROut _ _ _ _ (gr++[y]).length _ _ _
 rw [List.length_append];exact h'
theorem RD.appD {dl:List A1P} {gr:List E0} {dv gv:AV} {s t:St} {y:A1P} {x:AV} {k:KK} {g:Nat→AV} (h:RD dl gr dv gv s t) (hs:Y5 2 t x=some (1,g)) (hg:g 0=B9S y) (hb:dl.length≤1000)
  (hk:∀ b t',RD (dl++[y]) gr (.own 2 b 0 (dl.length+1)) gv s t'→k (.own 2 b 0 (dl.length+1)) t'):A5h T 42 dv x t k:=by
 refine ROut.app (q:=C2L) (f:=A0N (dl++[y])) (A6I _ _) rfl rfl rfl rfl hs (by rw [hg];simp only [A0N,A6T]) (by show (dl.length+1) * 24≤140737488355328;omega) (ROut.congr h fun k hk=>by simp only [A0N];rw [A0g hk]) (fun sv' t' h'=>?_)
 obtain ⟨b,rfl⟩:=ROut.own h'
 exact hk b t' (RD.of h')
theorem RD.deals {dl:List A1P} {gr:List E0} {dv gv:AV} {s t:St} (h:RD dl gr dv gv s t):(dl=[]∧dv=.emp)∨∃ bd g,dv=.own 2 bd 0 dl.length∧s bd=none∧t bd=some ⟨134,2,dl.length,g⟩∧∀ k,k<dl.length→g k=A0N dl k:=by
 obtain ⟨s0,hc,hg0⟩:=h
 rcases hc with ⟨h0,h1,rfl⟩ | ⟨h0,b,g0,hb,h1,rfl,hgg⟩
 ·exact .inl ⟨List.eq_nil_of_length_eq_zero h0,h1⟩
 ·exact .inr ⟨b,g0,h1,hb,(A6I _ _).sup hg0 b _ (A0 ..),hgg⟩
theorem RD.groups {dl:List A1P} {gr:List E0} {dv gv:AV} {s t:St} (h:RD dl gr dv gv s t):(gv=.emp∧gr=[])∨∃ b g,gv=.own 1 b 0 gr.length∧t b=some ⟨9,1,gr.length,g⟩∧∀ k,k<gr.length→g k=eS (gr.getD k default):=by
 obtain ⟨s0,hc,s1,hc2,hs⟩:=h
 rcases hc2 with ⟨h0,h1,rfl⟩ | ⟨h0,b,g0,hb,h1,rfl,hgg⟩
 ·exact .inl ⟨h1,List.eq_nil_of_length_eq_zero h0⟩
 ·exact .inr ⟨b,g0,h1,hs b _ (A0 ..),hgg⟩
theorem A9k {σ : Type} (px : σ→PSt) (step : σ→B2→σ) (sm:B2→Bool) (l:List B2) (a : σ) (o:List Int) (x:Int):V9 px step sm l a (o++[x])=if sm (D9 l x)=true then goB px step (V9 px step sm l a o) (D9 l x) else V9 px step sm l a o:=by
 unfold V9
 rw [List.filter_append,List.foldl_append]
 by_cases h:sm (D9 l x)=true
 ·rw [if_pos h,List.filter_cons_of_pos (p:=fun x=>sm (D9 l x)) h];rfl
 ·rw [if_neg h,List.filter_cons_of_neg (p:=fun x=>sm (D9 l x)) h];rfl
def named (l:List E0):List E0:=l.filter fun g=>!K1 g
theorem A9B (l:List E0) (g:E0):named (l++[g])=named l++(if K1 g=true then [] else [g]):=by
 unfold named
 rw [List.filter_append]
 congr 1
 cases h:K1 g
 ·rw [List.filter_cons_of_pos (p:=fun g=>!K1 g) (by rw [h];rfl)];rfl
 ·rw [List.filter_cons_of_neg (p:=fun g=>!K1 g) (by rw [h];simp)];rfl
theorem C1w (l:List E0) (g:E0):(!K1 g&&l.any fun y=>y.toList==g.toList)=!(K1 g||!inB (named l) g):=by
 cases hn:K1 g
 ·rw [Bool.not_false,Bool.true_and,Bool.false_or,Bool.not_not]
  unfold inB named
  rw [←Bool.coe_iff_coe,List.any_eq_true,List.any_eq_true]
  constructor
  ·rintro ⟨y,h1,h2⟩
   refine ⟨y,List.mem_filter.2 ⟨h1,?_⟩,by rw [Bool.beq_comm];exact h2⟩
   unfold K1 at hn ⊢
   rw [eq_of_beq h2,hn];rfl
  ·rintro ⟨y,h1,h2⟩
   exact ⟨y,(List.mem_filter.1 h1).1,by rw [Bool.beq_comm];exact h2⟩
 ·rfl
theorem C3C {σ : Type} {px : σ→PSt} {step : σ→B2→σ} {a : σ} {pr:B2} {G:List E0} (hG:named G=(px a).groups) :
  goB px step a pr=if (!K1 pr.group&&G.any fun y=>y.toList==pr.group.toList)=true then a else step a pr:=by
 unfold goB
 rw [C1w,hG]
 cases (K1 pr.group||!inB (px a).groups pr.group)<;>rfl
theorem C1Y {items:List Ab.Item} {p:PSt} {pr:B2} (hk:Q7 pr=true) {G:List E0} (hG:named G=p.groups) :
  goB (fun p=>p) (A3G items) p pr=if (!K1 pr.group&&G.any fun y=>y.toList==pr.group.toList)=true then p else A3G items p pr:=C3C (px:=fun p=>p) hG
theorem B8f (l:List E0):(named l).length≤l.length:=List.length_filter_le _ _
set_option maxHeartbeats 8000000 in
theorem C0N (r:F9) (codes:List E0) (l:List F5) (hf:V6 r) (hsm:A0l r) (hR:J0 r=true) (hcn:Sm codes.length) (hcs:∀ s∈codes,Sm s.size) (hln:Sm l.length) (st:St) :
  S P 19 [I8 r,D6 codes,B1 3 F7 l] st fun v st' =>
   v=(if D4 r codes l=0 then .tuple [X1 (S1 r l (P2 r.promos codes) (P2 r.promos codes)),eI 0] else .tuple [X1 ⟨[],0,0,[]⟩,eI (D4 r codes l)])∧st'=st:=by
 obtain ⟨X,hX⟩:∃ X,X=S1 r l (P2 r.promos codes) (P2 r.promos codes):=⟨_,rfl⟩
 refine S.post (post:=fun v st'=>(D4 r codes l≠0∧v=.tuple [.agg [.emp,eI 0,eI 0,.emp],eI (D4 r codes l)]∧F3 st st') ∨
   (D4 r codes l=0∧∃ bn fn dv,v=.tuple [.agg [.own 1 bn 0 l.length,eI X.net,eI X.ship,dv],eI 0] ∧
    st bn=none∧st' bn=some ⟨2,1,l.length,fn⟩∧(∀ k,k<l.length→fn k=eI (gI X.nets k))∧F3 st st' ∧
    ((X.deals=[]∧dv=.emp)∨∃ bd g,dv=.own 2 bd 0 X.deals.length∧st bd=none∧bd≠bn∧st' bd=some ⟨134,2,X.deals.length,g⟩∧∀ k,k<X.deals.length→g k=A0N X.deals k))) ?_
  (fun v st' hv=>by
   rcases hv with ⟨h1,rfl,hs⟩ | ⟨h1,bn,fn,dv,rfl,h4,h5,h6,hs,h7⟩
   ·refine ⟨_,st,⟨rfl,rfl⟩,?_⟩
    rw [if_neg h1]
    refine (hs.shift _).trans (B4.tuple (B4.cons (B4.agg ?_) (B4.keep _ _)) rfl)
    exact B4.cons (I6 1 _) (B4.cons (B4.keep [eI 0] _) (B4.cons (B4.keep [eI 0] _) (I6 2 _)))
   ·refine ⟨_,st,⟨rfl,rfl⟩,?_⟩
    rw [if_pos h1,←hX]
    refine B4.tuple (B4.cons (B4.agg ?_) (B4.keep _ _)) rfl
    have hnl:X.nets.length=l.length:=by rw [hX];show (T7 _ _).length=_;unfold T7;rw [List.length_map,List.length_range]
    clear hX
    have e1:B6 X.nets=.arr 1 l.length (fun k=>eI (gI X.nets k)):=by unfold B6 B1;rw [hnl]
    refine B4.cons (t:=del st' bn) ?_ (B4.cons (B4.keep [eI X.net] _) (B4.cons (B4.keep [eI X.ship] _) ?_))
    ·rw [e1];exact L0 h5 rfl (Nat.le_refl _) h6
    ·rcases h7 with ⟨h8,rfl⟩ | ⟨bd,g,rfl,h8,h9,h10,h11⟩
     ·rw [h8]
      exact ((F3.del hs h4).shift _).trans (I6 2 _)
     ·refine (L0 (b:=bd) (y:=⟨134,2,X.deals.length,g⟩) (f:=A0N X.deals) (by rw [A0M h9];exact h10) rfl (Nat.le_refl _) h11).trans ?_
      exact (F3.del (F3.del hs h4) h8).shift _)
 have hC:=hR
 unfold J0 A8m at hC
 simp only [Bool.and_eq_true] at hC
 obtain ⟨⟨⟨⟨_,hpc⟩,_⟩,hfee,hfree⟩,_⟩:=hC
 rw [L4] at hfee hfree
 have hpk:D4 r codes l=if R9 codes=false then 2 else J3 (known r.items) l:=by unfold D4;rw [if_neg (by rw [hR];simp)]
 refine A7 [3,15,20] C0 mixed Tryz.func19 (by rfl) rfl rfl rfl ?_;conv=>whnf
 intro b6 hb6;conv=>whnf
 refine B3 (B6b r hsm hR _) ?_;conv=>whnf
 refine B3 (C0K codes hcn hcs _) ?_
 have h6s:∀ x:Q3,F3 st (upd st b6 x):=fun x=>(F3.refl st).upd hb6
 cases hcc:R9 codes
 ·rw [if_pos hcc] at hpk
  have hk0:D4 r codes l≠0:=by rw [hpk];decide
  conv=>whnf
  refine J7 (A0 ..) rfl (by omega) rfl (by rfl) ?_;conv=>whnf
  refine E9 (A0 ..) rfl (by omega) (A5 ..) ?_;conv=>whnf
  exact .inl ⟨hk0,by rw [hpk];rfl,(h6s _).over hb6⟩
 rw [if_neg (by rw [hcc];simp)] at hpk;conv=>whnf
 refine B3 (C0J r.items l hsm.n hln _) ?_
 rw [←hpk];conv=>whnf
 cases h1:(D4 r codes l != 0)
 case true =>
  have hk0:D4 r codes l≠0:=by simpa using h1
  conv=>whnf
  refine J7 (A0 ..) rfl (by omega) rfl (by rfl) ?_;conv=>whnf
  refine E9 (A0 ..) rfl (by omega) (A5 ..) ?_;conv=>whnf
  exact .inl ⟨hk0,rfl,(h6s _).over hb6⟩
 have hk0:D4 r codes l=0:=by simpa using h1
 have hck:=A8D hk0
 have hli:=hck.lines
 have hlen:=hli.len
 have hus0:=B3f hli
 have hitl:(D1 r.items l).length=l.length:=List.length_map ..
 obtain ⟨u1,u2,u3⟩:=A1A l hli.line l.length (Nat.le_refl _)
 conv=>whnf
 refine ⟨[],[],List.range 13,by kernel_rfl,?_⟩;conv=>whnf
 refine ⟨_,D2 (C0O l hlen hli.line (eq_of_beq hli.may) hus0.ok.len _),?_⟩;conv=>whnf
 refine ⟨_,D2 (C0M r.items l hsm.n hlen hli.known _),?_⟩;conv=>whnf
 refine ⟨_,D2 (B8B r.promos codes hpc hcn _),?_⟩;conv=>whnf
 have hol:(P2 r.promos codes).length≤60:=by
  rw [(W5 _ _).length_eq]
  have:=P3 r.promos codes r.promos.length
  have:=hck.few;omega
 have hom:∀ x∈P2 r.promos codes,0≤x∧x.toNat<r.promos.length:=fun x hx=>T9 ((W5 _ _).mem_iff.1 hx)
 have hXd:X=⟨T7 l.length (p1B r l (P2 r.promos codes)).us,K8 (p1B r l (P2 r.promos codes)),(p2B r l (p1B r l (P2 r.promos codes)) (P2 r.promos codes)).2,(p2B r l (p1B r l (P2 r.promos codes)) (P2 r.promos codes)).1.deals⟩:=hX
 clear hX
 generalize P2 r.promos codes=o at *
 generalize hs6:(upd st b6 _)=s6 at *
 have h6:s6 b6=some ⟨44,4,1,fun _=>K6 r44.zero⟩:=by rw [←hs6];exact A0 ..
 have hst6:F3 st s6:=by rw [←hs6];exact h6s _
 clear hs6
 refine mkO rfl rfl rfl (by show 8 * l.length≤_;omega) (by omega) (by rfl) (fun bn hbn=>?_);conv=>whnf
 intro bp hbp
 have hnb:bn≠bp:=fun e=>by subst e;rw [A0] at hbp;cases hbp
 have hbp6:s6 bp=none:=by rw [A9 hnb.symm] at hbp;exact hbp
 have hb6p:b6≠bp:=fun e=>by subst e;rw [h6] at hbp6;cases hbp6
 have hb6n:b6≠bn:=fun e=>by subst e;rw [h6] at hbn;cases hbn
 have hstn:st bn=none:=hst6.none hbn
 have hstp:st bp=none:=hst6.none hbp6
 conv=>whnf
 refine J7 (A0 ..) rfl (by omega) rfl (by rfl) ?_
 rw [B8];conv=>whnf
 have hat:∀ {dl:List A1P} {gr:List E0} {dv gv:AV} {Y Z:Q3} {t:St},RD dl gr dv gv (upd (upd s6 bn Y) bp Z) t→t bn=some Y∧t bp=some Z:=fun h=>⟨h.sup bn _ (by rw [A9 hnb,A0]),h.sup bp _ (A0 ..)⟩
 have hwn:∀ {dl:List A1P} {gr:List E0} {dv gv:AV} {Y Z Y':Q3} {t:St},RD dl gr dv gv (upd (upd s6 bn Y) bp Z) t→RD dl gr dv gv (upd (upd s6 bn Y') bp Z) (upd t bn Y'):=fun {_ _ _ _ Y Z Y' t} h=>by
  have:=h.wr (b:=bn) (y':=Y') (by rw [A9 hnb,A0])
  rw [L3 hnb.symm,B8] at this;exact this
 have hwp:∀ {dl:List A1P} {gr:List E0} {dv gv:AV} {Y Z Z':Q3} {t:St},RD dl gr dv gv (upd (upd s6 bn Y) bp Z) t→RD dl gr dv gv (upd (upd s6 bn Y) bp Z') (upd t bp Z'):=fun {_ _ _ _ Y Z Z' t} h=>by
  have:=h.wr (b:=bp) (y':=Z') (A0 ..)
  rw [B8] at this;exact this
 have htk:∀ {i:Nat},i<o.length→o.take (i+1)=o.take i++[gI o i]:=fun h=>L2 h
 refine lp o.length [3,6,9,10,11,12,13,14] (fun i vs t=>∃ (p:PSt) (dv gv:AV) (G:List E0) (fp:Nat→AV),p=V9 (fun p=>p) (A3G (D1 r.items l)) Q7 r.promos ⟨R8 l,[],[]⟩ (o.take i) ∧
   vs=[.fptr (I8 r) 0,.optr 4 b6 0 0,C9 p.us,B1 4 E5 (D1 r.items l),B6 o,.optr 4 bp 0 0,gv,eI i] ∧
   RD p.deals G dv gv (upd (upd s6 bn ⟨2,1,l.length,fun _=>K6 r2.zero⟩) bp ⟨44,4,1,fp⟩) t∧fp 0=.agg [.own 1 bn 0 l.length,eI 0,eI 0,dv] ∧
   named G=p.groups∧G.length≤i∧p.deals.length≤i∧A5J (D1 r.items l) p.us∧∃ x,Off (R8 l) p.us x) ?_ ?_
 ·conv=>whnf
  exact ⟨⟨R8 l,[],[]⟩,.emp,.emp,[],_,rfl,rfl,RD.start _,A5 ..,rfl,Nat.le_refl _,Nat.le_refl _,hus0,0,Off.refl hus0.ok⟩
 ·rintro i vs t hi ⟨p,dv,gv,G,fp,hp,rfl,hR,hfp,hG,hGn,hDn,hus,x,hoff⟩
  conv=>whnf
  cases hd:decide ((i:Int)<(o.length:Int))
  case true =>
   have hi':=H0 hd
   have hx:=hom _ (B5 hi')
   have hx0:0≤gI o (i:Int).toNat:=hx.1
   have hx1:(gI o (i:Int).toNat).toNat<r.promos.length:=hx.2
   have hpm:D9 r.promos (gI o i)∈r.promos:=B5 hx.2
   have hpr:D9 r.promos (gI o i)=r.promos.getD (gI o (i:Int).toNat).toNat default:=rfl
   have hps:PSm (D9 r.promos (gI o i)):=⟨hsm.promos _ hpm,hck.promo _ hpm,hf.fit _ hpm⟩
   have hnext:=A9k (fun p=>p) (A3G (D1 r.items l)) Q7 r.promos ⟨R8 l,[],[]⟩ (o.take i) (gI o i)
   rw [←htk hi',←hp,hpr] at hnext
   rw [hpr] at hps;conv=>whnf
   refine ⟨[8,9],[1,5,7],List.range 10,by kernel_rfl,?_⟩;conv=>whnf
   refine ⟨_,fun s _=>⟨rfl,rfl⟩,?_⟩;conv=>whnf
   refine ⟨rfl,⟨by omega,by omega⟩,?_⟩;conv=>whnf
   refine ⟨_,fun s _=>⟨rfl,rfl⟩,?_⟩;conv=>whnf
   refine ⟨rfl,⟨by show 0≤gI o (i:Int).toNat;omega,by show gI o (i:Int).toNat<(r.promos.length:Int);omega⟩,?_⟩;conv=>whnf
   refine ⟨_,fun s _=>⟨rfl,rfl⟩,?_⟩;conv=>whnf
   have hend:∀ {q:PSt} {dv' gv':AV} {G':List E0} {fp':Nat→AV} {t':St},q=V9 (fun p=>p) (A3G (D1 r.items l)) Q7 r.promos ⟨R8 l,[],[]⟩ (o.take (i+1))→RD q.deals G' dv' gv' (upd (upd s6 bn ⟨2,1,l.length,fun _=>K6 r2.zero⟩) bp ⟨44,4,1,fp'⟩) t'→fp' 0=.agg [.own 1 bn 0 l.length,eI 0,eI 0,dv'] →
     named G'=q.groups→G'.length≤i+1→q.deals.length≤i+1→A5J (D1 r.items l) q.us→(∃ x,Off (R8 l) q.us x)→∃ (p:PSt) (dv gv:AV) (G:List E0) (fp:Nat→AV),p=V9 (fun p=>p) (A3G (D1 r.items l)) Q7 r.promos ⟨R8 l,[],[]⟩ (o.take (i+1)) ∧
     [.fptr (I8 r) 0,.optr 4 b6 0 0,C9 q.us,B1 4 E5 (D1 r.items l),B6 o,.optr 4 bp 0 0,gv',eI (IntKind.i64.wrap ((i:Int)+1))]=[.fptr (I8 r) 0,.optr 4 b6 0 0,C9 p.us,B1 4 E5 (D1 r.items l),B6 o,.optr 4 bp 0 0,gv,eI ((i+1:Nat):Int)] ∧
     RD p.deals G dv gv (upd (upd s6 bn ⟨2,1,l.length,fun _=>K6 r2.zero⟩) bp ⟨44,4,1,fp⟩) t'∧fp 0=.agg [.own 1 bn 0 l.length,eI 0,eI 0,dv] ∧
     named G=p.groups∧G.length≤i+1∧p.deals.length≤i+1∧A5J (D1 r.items l) p.us∧∃ x,Off (R8 l) p.us x:=fun {q dv' gv' G' fp' t'} h1 h2 h3 h4 h5 h6 h7 h8=>⟨q,dv',gv',G',fp',h1,by rw [C2 (by omega)],h2,h3,h4,h5,h6,h7,h8⟩
   cases h7:((r.promos.getD (gI o (i:Int).toNat).toNat default).kind==7)
   case true =>
    rw [if_neg (by unfold Q7;rw [h7];simp)] at hnext;conv=>whnf
    refine ⟨rfl,?_⟩;conv=>whnf
    exact nx hi' (hend hnext.symm hR hfp hG (by omega) (by omega) hus ⟨x,hoff⟩)
   case false =>
    have hns:Q7 (r.promos.getD (gI o (i:Int).toNat).toNat default)=true:=by unfold Q7;rw [h7];rfl
    rw [if_pos hns,C1Y hns hG] at hnext;conv=>whnf
    refine B3 (B4E G (r.promos.getD (gI o (i:Int).toNat).toNat default).group (by omega) gv _ hR.groups) ?_
    cases htk:(!K1 (r.promos.getD (gI o (i:Int).toNat).toNat default).group&&G.any fun y=>y.toList==(r.promos.getD (gI o (i:Int).toNat).toNat default).group.toList)
    case true =>
     rw [if_pos htk] at hnext;conv=>whnf
     refine ⟨rfl,?_⟩;conv=>whnf
     exact nx hi' (hend hnext.symm hR hfp hG (by omega) (by omega) hus ⟨x,hoff⟩)
    case false =>
     rw [if_neg (by rw [htk];simp)] at hnext
     have hk7:(r.promos.getD (gI o (i:Int).toNat).toNat default).kind≠7:=by simpa using h7
     obtain ⟨y,hoy⟩:=B3u hus hps.fit hps.right hk7
     have hus2:=hus.off hoy
     have hof2:=hoff.trans hoy
     rw [←hnext] at hus2 hof2
     have hAs:A3G (D1 r.items l) p (r.promos.getD (gI o (i:Int).toNat).toNat default)=if (X2 (D1 r.items l) p.us (r.promos.getD (gI o (i:Int).toNat).toNat default)).2>0 then A0Q ⟨(X2 (D1 r.items l) p.us (r.promos.getD (gI o (i:Int).toNat).toNat default)).1,p.deals,p.groups⟩ (r.promos.getD (gI o (i:Int).toNat).toNat default) (X2 (D1 r.items l) p.us (r.promos.getD (gI o (i:Int).toNat).toNat default)).2 else p:=rfl
     conv=>whnf
     refine call (C4C (D1 r.items l) p.us (r.promos.getD (gI o (i:Int).toNat).toNat default) hps hk7 hus _) (fun v t' hv=>?_)
     obtain ⟨⟨z,rfl,hz⟩,rfl⟩:=hv
     conv=>whnf
     cases hgt:decide ((X2 (D1 r.items l) p.us (r.promos.getD (gI o (i:Int).toNat).toNat default)).2>0)
     case false =>
      rw [if_neg (of_decide_eq_false hgt)] at hAs
      rw [hAs] at hnext;conv=>whnf
      refine ⟨rfl,?_⟩;conv=>whnf
      exact nx hi' (hend hnext.symm hR hfp hG (by omega) (by omega) hus ⟨x,hoff⟩)
     case true =>
      have hgt':=of_decide_eq_true hgt
      rw [if_pos hgt'] at hAs
      rw [hAs] at hnext
      obtain rfl:=hz hgt'
      conv=>whnf
      refine RD.appG (y:=(r.promos.getD (gI o (i:Int).toNat).toNat default).group) hR rfl rfl (by omega) (fun gv' t1 hR1=>?_);conv=>whnf
      have hdv:=ROut.head hR1
      rcases hdv with rfl | ⟨bo,rfl⟩
      all_goals
       refine E9 (hat hR1).2 rfl (by omega) hfp ?_;conv=>whnf
       refine RD.appD (y:=⟨(r.promos.getD (gI o (i:Int).toNat).toNat default).id,(X2 (D1 r.items l) p.us (r.promos.getD (gI o (i:Int).toNat).toNat default)).2⟩) hR1 rfl (by rfl) (by omega) (fun bd t2 hR2=>?_);conv=>whnf
       refine J7 (hat hR2).2 rfl (by omega) hfp (by rfl) ?_;conv=>whnf
       refine ⟨rfl,?_⟩;conv=>whnf
       refine nx hi' ?_
       have hD:(A0Q ⟨(X2 (D1 r.items l) p.us (r.promos.getD (gI o (i:Int).toNat).toNat default)).1,p.deals,p.groups⟩ (r.promos.getD (gI o (i:Int).toNat).toNat default) (X2 (D1 r.items l) p.us (r.promos.getD (gI o (i:Int).toNat).toNat default)).2).deals=p.deals++[⟨(r.promos.getD (gI o (i:Int).toNat).toNat default).id,(X2 (D1 r.items l) p.us (r.promos.getD (gI o (i:Int).toNat).toNat default)).2⟩]:=rfl
       have hGr:(A0Q ⟨(X2 (D1 r.items l) p.us (r.promos.getD (gI o (i:Int).toNat).toNat default)).1,p.deals,p.groups⟩ (r.promos.getD (gI o (i:Int).toNat).toNat default) (X2 (D1 r.items l) p.us (r.promos.getD (gI o (i:Int).toNat).toNat default)).2).groups=p.groups++(if K1 (r.promos.getD (gI o (i:Int).toNat).toNat default).group=true then [] else [(r.promos.getD (gI o (i:Int).toNat).toNat default).group]):=rfl
       have hUs:(A0Q ⟨(X2 (D1 r.items l) p.us (r.promos.getD (gI o (i:Int).toNat).toNat default)).1,p.deals,p.groups⟩ (r.promos.getD (gI o (i:Int).toNat).toNat default) (X2 (D1 r.items l) p.us (r.promos.getD (gI o (i:Int).toNat).toNat default)).2).us=(X2 (D1 r.items l) p.us (r.promos.getD (gI o (i:Int).toNat).toNat default)).1:=rfl
       rw [hnext] at hus2 hof2
       exact hend (G':=G++[(r.promos.getD (gI o (i:Int).toNat).toNat default).group]) hnext.symm (hwp hR2) (A5 ..) (by rw [A9B,hG];rfl) (by rw [List.length_append];show G.length+1≤_;omega) (by rw [hD,List.length_append];show p.deals.length+1≤_;omega) hus2 ⟨_,hof2⟩
  case false =>
   obtain rfl:=D7 hd hi
   rw [List.take_length] at hp
   have hp1:p1B r l o=p:=hp.symm
   rw [hp1] at hXd
   clear hp1 hp
   have hu1:=hus.ok
   have hul:=hu1.len
   have hus1:=hu1.sum
   have hnet0:=D0 hu1.nets0
   have hline:∀ k,k<p.us.length→0≤(gU p.us k).line∧(gU p.us k).line.toNat<l.length:=fun k hk=>by
    have:=hus.line _ (B5 hk)
    rw [hitl] at this;exact this
   have hul1:p.us.length=(R8 l).length:=hoff.len
   conv=>whnf
   refine lp p.us.length [3,6,9,11,12,13,18] (fun k vs t=>∃ (fn fp:Nat→AV),vs=[.fptr (I8 r) 0,.optr 4 b6 0 0,C9 p.us,B6 o,.optr 4 bp 0 0,gv,eI k] ∧
    RD p.deals G dv gv (upd (upd s6 bn ⟨2,1,l.length,fn⟩) bp ⟨44,4,1,fp⟩) t∧fp 0=.agg [.own 1 bn 0 l.length,eI (A6 ((E1 p.us).take k)),eI 0,dv]∧∀ j,j<l.length→fn j=eI (F8 (p.us.take k) j)) ?_ ?_
   ·conv=>whnf
    exact ⟨_,fp,rfl,hR,hfp,fun j _=>rfl⟩
   ·clear hR hfp fp
    rintro k vs t hk ⟨fn,fp,rfl,hR,hfp,hfn⟩
    obtain ⟨htn,htp⟩:=hat hR
    conv=>whnf
    cases hd2:decide ((k:Int)<(p.us.length:Int))
    case true =>
     have hk':=H0 hd2
     have hlk:0≤(gU p.us (k:Int).toNat).line∧(gU p.us (k:Int).toNat).line.toNat<l.length:=hline k hk'
     have hn0:0≤(gU p.us k).net:=hu1.at0 k
     have hn1:(gU p.us k).net≤10000000000000:=hu1.le (B5 hk')
     have e1:=N7 (l:=E1 p.us) (i:=k) (by rw [List.length_map];exact hk')
     have e4:gI (E1 p.us) k=(gU p.us k).net:=E2 B7.net p.us hk'
     have e2:=N0 hu1.nets0 (k+1)
     have e3:=D0 (l:=(E1 p.us).take k) (fun x hx=>hu1.nets0 x (List.take_subset _ _ hx))
     have hlb:=A0h hu1 k (gU p.us (k:Int).toNat).line.toNat
     have hlb2:=A0h hu1 (k+1) (gU p.us (k:Int).toNat).line.toNat
     have hln1:F8 (p.us.take (k+1)) (gU p.us (k:Int).toNat).line.toNat=F8 (p.us.take k) (gU p.us (k:Int).toNat).line.toNat+(gU p.us (k:Int).toNat).net:=(U9 hk' (gU p.us k).line.toNat).trans (if_pos rfl)
     have hfl:fn (0+(gU p.us (k:Int).toNat).line.toNat)=eI (F8 (p.us.take k) (gU p.us (k:Int).toNat).line.toNat):=by rw [Nat.zero_add];exact hfn _ hlk.2
     have w1:IntKind.i64.wrap (F8 (p.us.take k) (gU p.us (k:Int).toNat).line.toNat+(gU p.us (k:Int).toNat).net)=F8 (p.us.take (k+1)) (gU p.us (k:Int).toNat).line.toNat:=by rw [hln1];exact A8 (by omega) (by omega)
     have w2:IntKind.i64.wrap (A6 ((E1 p.us).take k)+(gU p.us (k:Int).toNat).net)=A6 ((E1 p.us).take (k+1)):=by rw [e1,e4];exact A8 (by omega) (by omega)
     conv=>whnf
     refine ⟨[23],[],List.range 24,by kernel_rfl,?_⟩;conv=>whnf
     refine E9 htp rfl (by omega) hfp ?_;conv=>whnf
     refine ⟨rfl,⟨by omega,by omega⟩,?_⟩;conv=>whnf
     refine E9 htp rfl (by omega) hfp ?_;conv=>whnf
     refine ⟨rfl,⟨by omega,by omega⟩,?_⟩;conv=>whnf
     refine ⟨rfl,⟨by show 0≤(gU p.us (k:Int).toNat).line;exact hlk.1,by show (gU p.us (k:Int).toNat).line<(l.length:Int);have:=hlk.2;have:=hlk.1;omega⟩,?_⟩;conv=>whnf
     refine E9 htn rfl (by show 0+(gU p.us (k:Int).toNat).line.toNat<_;have:=hlk.2;omega) hfl ?_;conv=>whnf
     refine ⟨rfl,⟨by omega,by omega⟩,?_⟩;conv=>whnf
     refine ⟨rfl,⟨by show 0≤(gU p.us (k:Int).toNat).line;exact hlk.1,by show (gU p.us (k:Int).toNat).line<(l.length:Int);have:=hlk.2;have:=hlk.1;omega⟩,?_⟩;conv=>whnf
     refine J7 htn rfl (by show 0+(gU p.us (k:Int).toNat).line.toNat<_;have:=hlk.2;omega) hfl (by rfl) ?_
     have hP5:=hwn (Y':=⟨2,1,l.length,G6 fn (0+(gU p.us (k:Int).toNat).line.toNat) (eI (F8 (p.us.take (k+1)) (gU p.us (k:Int).toNat).line.toNat))⟩) hR
     rw [←w1] at hP5
     obtain ⟨_,htp2⟩:=hat hP5
     conv=>whnf
     refine ⟨[9],[],List.range 10,by kernel_rfl,?_⟩;conv=>whnf
     refine E9 htp2 rfl (by omega) hfp ?_;conv=>whnf
     refine ⟨rfl,⟨by omega,by omega⟩,?_⟩;conv=>whnf
     refine J7 htp2 rfl (by omega) hfp (by rfl) ?_;conv=>whnf
     refine ⟨rfl,?_⟩;conv=>whnf
     refine nx hk' ⟨_,_,by rw [C2 (by omega)],hwp hP5,?_,fun j hj=>?_⟩
     ·rw [A5,←w2];rfl
     ·show G6 fn (0+(gU p.us (k:Int).toNat).line.toNat) _ j=_
      rw [Nat.zero_add]
      by_cases hj2:j=(gU p.us (k:Int).toNat).line.toNat
      ·subst hj2
       rw [A5,w1]
      ·rw [F4 hj2,U9 hk' j,if_neg (fun e=>hj2 e.symm)];exact hfn j hj
    case false =>
     obtain rfl:=D7 hd2 hk
     rw [List.take_length] at hfn
     have htk2:(E1 p.us).take p.us.length=E1 p.us:=by rw [←List.length_map (f:=B7.net),List.take_length]
     rw [htk2] at hfp
     change fp 0=.agg [.own 1 bn 0 l.length,eI (K8 p),eI 0,dv] at hfp
     have hF:A0a r.ship (R8 l).length (K8 p)=if ((p.us.length:Int)=0∨(r.ship.free>0∧K8 p≥r.ship.free)) then 0 else r.ship.fee:=by unfold A0a;rw [hul1]
     have hnb0:0≤K8 p:=hnet0
     conv=>whnf
     refine C4 (fun g1=>?_) (fun g1=>?_)<;>rw [g1]<;>simp only [decide_eq_true_eq,decide_eq_false_iff_not] at g1
     case' refine_1 =>
      conv=>whnf
      refine C4 (fun g2=>?_) (fun g2=>?_)<;>rw [g2]<;>simp only [beq_iff_eq,beq_eq_false_iff_ne,ne_eq] at g2
     case' refine_1.refine_1 =>
      conv=>whnf
      refine J7 htp rfl (by omega) hfp (by rfl) ?_
      have hR3:=hwp (Z':=⟨44,4,1,G6 fp 0 (.agg [.own 1 bn 0 l.length,eI (K8 p),eI r.ship.fee,dv])⟩) hR
      have hfp3:G6 fp 0 (.agg [.own 1 bn 0 l.length,eI (K8 p),eI r.ship.fee,dv]) 0=.agg [.own 1 bn 0 l.length,eI (K8 p),eI (A0a r.ship (R8 l).length (K8 p)),dv]:=by rw [A5,hF,if_neg (by omega)]
     case' refine_1.refine_2 =>
      conv=>whnf
      refine E9 htp rfl (by omega) hfp ?_;conv=>whnf
      refine C4 (fun g3=>?_) (fun g3=>?_)<;>rw [g3]<;>simp only [decide_eq_true_eq,decide_eq_false_iff_not] at g3
     case' refine_1.refine_2.refine_1 =>
      conv=>whnf
      refine J7 htp rfl (by omega) hfp (by rfl) ?_
      have hR3:=hwp (Z':=⟨44,4,1,G6 fp 0 (.agg [.own 1 bn 0 l.length,eI (K8 p),eI r.ship.fee,dv])⟩) hR
      have hfp3:G6 fp 0 (.agg [.own 1 bn 0 l.length,eI (K8 p),eI r.ship.fee,dv]) 0=.agg [.own 1 bn 0 l.length,eI (K8 p),eI (A0a r.ship (R8 l).length (K8 p)),dv]:=by rw [A5,hF,if_neg (by omega)]
     case' refine_1.refine_2.refine_2 =>
      have hR3:=hR
      have hfp3:fp 0=.agg [.own 1 bn 0 l.length,eI (K8 p),eI (A0a r.ship (R8 l).length (K8 p)),dv]:=by rw [hfp,hF,if_pos (by omega)]
     case' refine_2 =>
      have hR3:=hR
      have hfp3:fp 0=.agg [.own 1 bn 0 l.length,eI (K8 p),eI (A0a r.ship (R8 l).length (K8 p)),dv]:=by rw [hfp,hF,if_pos (by omega)]
     all_goals
      conv=>whnf
      clear hR hfp hF
      have hfeB:0≤A0a r.ship (R8 l).length (K8 p)∧A0a r.ship (R8 l).length (K8 p)≤10000000000000:=by
       unfold A0a;split<;>omega
      refine lp o.length [3,6,11,12,13,19] (fun i vs t=>∃ (a:PSt×Int) (dv gv:AV) (G:List E0) (fp:Nat→AV),a=V9 (fun a=>a.1) (R7 (K8 p)) X7 r.promos (p,A0a r.ship (R8 l).length (K8 p)) (o.take i) ∧
       vs=[.fptr (I8 r) 0,.optr 4 b6 0 0,B6 o,.optr 4 bp 0 0,gv,eI i] ∧
       RD a.1.deals G dv gv (upd (upd s6 bn ⟨2,1,l.length,fn⟩) bp ⟨44,4,1,fp⟩) t∧fp 0=.agg [.own 1 bn 0 l.length,eI (K8 p),eI a.2,dv] ∧
       named G=a.1.groups∧G.length≤60+i∧a.1.deals.length≤60+i∧0≤a.2∧a.2≤10000000000000) ?_ ?_
      ·conv=>whnf
       exact ⟨(p,A0a r.ship (R8 l).length (K8 p)),dv,gv,G,_,rfl,rfl,hR3,hfp3,hG,by omega,by show p.deals.length≤_;omega,hfeB⟩
      clear hR3 hfp3 hG hGn hDn htp htn hd hd2 hk hi
      rintro i vs t hi ⟨a,dv,gv,G,fp,ha,rfl,hR,hfp,hG,hGn,hDn,ha0,ha1⟩
      obtain ⟨htn,htp⟩:=hat hR
      conv=>whnf
      cases hd:decide ((i:Int)<(o.length:Int))
      case false =>
       obtain rfl:=D7 hd hi
       rw [List.take_length] at ha
       have hp2:p2B r l p o=a:=ha.symm
       rw [hp2] at hXd
       have h6b:t b6=some ⟨44,4,1,fun _=>K6 r44.zero⟩:=hR.sup b6 _ (by rw [A9 hb6p,A9 hb6n];exact h6)
       have h76:F3 s6 t:=fun c x hc=>hR.sup c x (by
        have e1:c≠bp:=fun e=>by subst e;rw [hbp6] at hc;cases hc
        have e2:c≠bn:=fun e=>by subst e;rw [hbn] at hc;cases hc
        rw [A9 e1,A9 e2];exact hc)
       have hS2:F3 st t:=hst6.trans h76
       have hnets:∀ k,k<l.length→fn k=eI (gI X.nets k):=fun k hk=>by
        rw [hXd,hfn k hk]
        show eI _=eI (gI (T7 l.length p.us) k)
        unfold T7
        rw [J9 _ hk]
       conv=>whnf
       rcases hR.deals with ⟨hd0,rfl⟩ | ⟨bd,gd,rfl,hbd,hbt,hgd⟩
       ·refine E9 htp rfl (by omega) hfp ?_;conv=>whnf
        refine J7 h6b rfl (by omega) rfl (by rfl) ?_;conv=>whnf
        refine E9 (A0 ..) rfl (by omega) (A5 ..) ?_;conv=>whnf
        exact .inr ⟨hk0,bn,fn,.emp,by rw [hXd];rfl,hstn,by rw [A9 hb6n.symm];exact htn,hnets,hS2.over hb6,.inl ⟨by rw [hXd];exact hd0,rfl⟩⟩
       ·have hbdp:bd≠bp:=fun e=>by subst e;rw [A0] at hbd;cases hbd
        rw [A9 hbdp] at hbd
        have hbdn:bd≠bn:=fun e=>by subst e;rw [A0] at hbd;cases hbd
        rw [A9 hbdn] at hbd
        have hbd6:bd≠b6:=fun e=>by subst e;rw [h6] at hbd;cases hbd
        refine E9 htp rfl (by omega) hfp ?_;conv=>whnf
        refine J7 h6b rfl (by omega) rfl (by rfl) ?_;conv=>whnf
        refine E9 (A0 ..) rfl (by omega) (A5 ..) ?_;conv=>whnf
        exact .inr ⟨hk0,bn,fn,.own 2 bd 0 a.1.deals.length,by rw [hXd];rfl,hstn,by rw [A9 hb6n.symm];exact htn,hnets,hS2.over hb6,.inr ⟨bd,gd,by rw [hXd],hst6.none hbd,hbdn,by rw [A9 hbd6,hXd];exact hbt,by rw [hXd];exact hgd⟩⟩
      case true =>
       have hi':=H0 hd
       have hx:=hom _ (B5 hi')
       have hx0:0≤gI o (i:Int).toNat:=hx.1
       have hx1:(gI o (i:Int).toNat).toNat<r.promos.length:=hx.2
       have hpm:(r.promos.getD (gI o (i:Int).toNat).toNat default)∈r.promos:=B5 hx.2
       have hpc1:G2 (r.promos.getD (gI o (i:Int).toNat).toNat default)=true:=hck.promo _ hpm
       have hnext:V9 (fun a=>a.1) (R7 (K8 p)) X7 r.promos (p,A0a r.ship (R8 l).length (K8 p)) (o.take (i+1))=if X7 (r.promos.getD (gI o (i:Int).toNat).toNat default)=true then goB (fun a=>a.1) (R7 (K8 p)) a (r.promos.getD (gI o (i:Int).toNat).toNat default) else a:=by
        rw [htk hi',A9k,←ha];rfl
       have hend:∀ {q:PSt×Int} {dv' gv':AV} {G':List E0} {fp':Nat→AV} {t':St},q=V9 (fun a=>a.1) (R7 (K8 p)) X7 r.promos (p,A0a r.ship (R8 l).length (K8 p)) (o.take (i+1))→RD q.1.deals G' dv' gv' (upd (upd s6 bn ⟨2,1,l.length,fn⟩) bp ⟨44,4,1,fp'⟩) t'→fp' 0=.agg [.own 1 bn 0 l.length,eI (K8 p),eI q.2,dv'] →
         named G'=q.1.groups→G'.length≤60+(i+1)→q.1.deals.length≤60+(i+1)→0≤q.2∧q.2≤10000000000000→∃ (a:PSt×Int) (dv gv:AV) (G:List E0) (fp:Nat→AV),a=V9 (fun a=>a.1) (R7 (K8 p)) X7 r.promos (p,A0a r.ship (R8 l).length (K8 p)) (o.take (i+1)) ∧
         [.fptr (I8 r) 0,.optr 4 b6 0 0,B6 o,.optr 4 bp 0 0,gv',eI (IntKind.i64.wrap ((i:Int)+1))]=[.fptr (I8 r) 0,.optr 4 b6 0 0,B6 o,.optr 4 bp 0 0,gv,eI ((i+1:Nat):Int)] ∧
         RD a.1.deals G dv gv (upd (upd s6 bn ⟨2,1,l.length,fn⟩) bp ⟨44,4,1,fp⟩) t'∧fp 0=.agg [.own 1 bn 0 l.length,eI (K8 p),eI a.2,dv] ∧
         named G=a.1.groups∧G.length≤60+(i+1)∧a.1.deals.length≤60+(i+1)∧0≤a.2∧a.2≤10000000000000:=fun {q dv' gv' G' fp' t'} h1 h2 h3 h4 h5 h6 h7=>⟨q,dv',gv',G',fp',h1,by rw [C2 (by omega)],h2,h3,h4,h5,h6,h7⟩
       conv=>whnf
       refine ⟨[8,9],[1,5,7],List.range 10,by kernel_rfl,?_⟩;conv=>whnf
       refine ⟨_,fun s _=>⟨rfl,rfl⟩,?_⟩;conv=>whnf
       refine ⟨rfl,⟨by omega,by omega⟩,?_⟩;conv=>whnf
       refine ⟨_,fun s _=>⟨rfl,rfl⟩,?_⟩;conv=>whnf
       refine ⟨rfl,⟨by show 0≤gI o (i:Int).toNat;omega,by show gI o (i:Int).toNat<(r.promos.length:Int);omega⟩,?_⟩;conv=>whnf
       refine ⟨_,fun s _=>⟨rfl,rfl⟩,?_⟩;conv=>whnf
       rw [show ((r.promos.getD (gI o (i:Int).toNat).toNat default).kind != 7)=!((r.promos.getD (gI o (i:Int).toNat).toNat default).kind==7) from rfl]
       cases h7:((r.promos.getD (gI o (i:Int).toNat).toNat default).kind==7)
       case false =>
        rw [if_neg (by unfold X7;rw [h7];simp)] at hnext;conv=>whnf
        refine ⟨rfl,?_⟩;conv=>whnf
        exact nx hi' (hend hnext.symm hR hfp hG (by omega) (by omega) ⟨ha0,ha1⟩)
       case true =>
        have hns:X7 (r.promos.getD (gI o (i:Int).toNat).toNat default)=true:=by unfold X7;rw [h7]
        rw [if_pos hns,C3C hG] at hnext;conv=>whnf
        refine B3 (B4E G (r.promos.getD (gI o (i:Int).toNat).toNat default).group (by omega) gv _ hR.groups) ?_
        cases htk2:(!K1 (r.promos.getD (gI o (i:Int).toNat).toNat default).group&&G.any fun y=>y.toList==(r.promos.getD (gI o (i:Int).toNat).toNat default).group.toList)
        case true =>
         rw [if_pos htk2] at hnext;conv=>whnf
         refine ⟨rfl,?_⟩;conv=>whnf
         exact nx hi' (hend hnext.symm hR hfp hG (by omega) (by omega) ⟨ha0,ha1⟩)
        case false =>
         rw [if_neg (by rw [htk2];simp)] at hnext
         have hgl:=B8f G
         rw [hG] at hgl
         have hinv:=B1m (net:=K8 p) (n:=0) hpc1 hns (a:=a) ⟨by omega,by omega,ha0,ha1⟩
         have hS0:R7 (K8 p) a (r.promos.getD (gI o (i:Int).toNat).toNat default)=((A5U a.1 (r.promos.getD (gI o (i:Int).toNat).toNat default) (K8 p) a.2).2,(A5U a.1 (r.promos.getD (gI o (i:Int).toNat).toNat default) (K8 p) a.2).1):=rfl
         have hSB:A5U a.1 (r.promos.getD (gI o (i:Int).toNat).toNat default) (K8 p) a.2=if K8 p<(r.promos.getD (gI o (i:Int).toNat).toNat default).least then (a.2,a.1) else (a.2 - I1 a.2 (r.promos.getD (gI o (i:Int).toNat).toNat default).rate,if I1 a.2 (r.promos.getD (gI o (i:Int).toNat).toNat default).rate>0 then A0Q a.1 (r.promos.getD (gI o (i:Int).toNat).toNat default) (I1 a.2 (r.promos.getD (gI o (i:Int).toNat).toNat default).rate) else a.1):=rfl
         rw [hS0] at hnext hinv;conv=>whnf
         refine E9 htp rfl (by omega) hfp ?_;conv=>whnf
         cases hgt:decide ((r.promos.getD (gI o (i:Int).toNat).toNat default).least>K8 p)
         case true =>
          have hgt':=of_decide_eq_true hgt
          rw [hSB,if_pos hgt'] at hnext;conv=>whnf
          refine ⟨rfl,?_⟩;conv=>whnf
          exact nx hi' (hend (q:=a) hnext.symm hR hfp hG (by omega) (by omega) ⟨ha0,ha1⟩)
         case false =>
          have hgt':=of_decide_eq_false hgt
          rw [if_neg (by omega)] at hSB
          have hb:=Q4 a.2 (r.promos.getD (gI o (i:Int).toNat).toNat default).rate
          have hr0:=(A0U hpc1).ship (by simpa using h7)
          have hle:=A3V ha0 (show 0≤(r.promos.getD (gI o (i:Int).toNat).toNat default).rate by omega) hr0.2
          have hw:IntKind.i64.wrap (a.2 - I1 a.2 (r.promos.getD (gI o (i:Int).toNat).toNat default).rate)=a.2 - I1 a.2 (r.promos.getD (gI o (i:Int).toNat).toNat default).rate:=A8 (by omega) (by omega)
          conv=>whnf
          refine E9 htp rfl (by omega) hfp ?_;conv=>whnf
          refine B3 (A7i a.2 (r.promos.getD (gI o (i:Int).toNat).toNat default).rate _) ?_;conv=>whnf
          cases hgh:decide (I1 a.2 (r.promos.getD (gI o (i:Int).toNat).toNat default).rate>0)
          case false =>
           have hgh':=of_decide_eq_false hgh
           rw [if_neg hgh'] at hSB
           rw [hSB,show a.2 - I1 a.2 (r.promos.getD (gI o (i:Int).toNat).toNat default).rate=a.2 by omega] at hnext;conv=>whnf
           refine ⟨rfl,?_⟩;conv=>whnf
           exact nx hi' (hend (q:=a) hnext.symm hR hfp hG (by omega) (by omega) ⟨ha0,ha1⟩)
          case true =>
           have hgh':=of_decide_eq_true hgh
           rw [if_pos hgh'] at hSB
           rw [hSB] at hnext hinv;conv=>whnf
           refine ⟨[1,6,7,8,10],[],[],.qui 0 (.qui 2 (.qui 4 (.qui 5 (.two 1 6 (.qui 3 (.qui 9 (.gen 6 (.gen 7 (.gen 8 (.gen 10 (.qui 11 .done))))))) (.two 1 7 (.qui 3 (.qui 9 (.gen 7 (.gen 8 (.gen 10 (.qui 11 .done)))))) (.two 1 8 (.qui 3 (.qui 9 (.gen 8 (.gen 10 (.qui 11 .done))))) (.gen 1 (.qui 3 (.qui 9 (.gen 10 (.qui 11 .done))))))))))),by kernel_rfl,?_⟩;conv=>whnf
           repeat' (refine And.intro ?_ ?_<;>(conv=>whnf))
           all_goals first
            | (refine E9 htp rfl (by omega) hfp ?_
               conv=>whnf
               refine RD.appG (y:=(r.promos.getD (gI o (i:Int).toNat).toNat default).group) hR rfl rfl (by omega) (fun gv' t1 hR1=>?_))
            | (refine RD.appG (y:=(r.promos.getD (gI o (i:Int).toNat).toNat default).group) hR rfl rfl (by omega) (fun gv' t1 hR1=>?_)
               conv=>whnf
               refine E9 (hat hR1).2 rfl (by omega) hfp ?_)
           all_goals
            conv=>whnf
            refine J7 (hat hR1).2 rfl (by omega) hfp (by rfl) ?_
            have hR2:=hwp (Z':=⟨44,4,1,G6 fp 0 (.agg [.own 1 bn 0 l.length,eI (K8 p),eI (IntKind.i64.wrap (a.2 - I1 a.2 (r.promos.getD (gI o (i:Int).toNat).toNat default).rate)),dv])⟩) hR1
            rcases ROut.head hR2 with rfl | ⟨bo,rfl⟩
            all_goals
             conv=>whnf
             refine E9 (hat hR2).2 rfl (by omega) (A5 ..) ?_;conv=>whnf
             refine RD.appD (y:=⟨(r.promos.getD (gI o (i:Int).toNat).toNat default).id,I1 a.2 (r.promos.getD (gI o (i:Int).toNat).toNat default).rate⟩) hR2 rfl (by rfl) (by omega) (fun bd t2 hR3=>?_);conv=>whnf
             refine J7 (hat hR3).2 rfl (by omega) (A5 ..) (by rfl) ?_;conv=>whnf
             refine ⟨rfl,?_⟩;conv=>whnf
             refine nx hi' ?_
             exact hend (q:=(A0Q a.1 (r.promos.getD (gI o (i:Int).toNat).toNat default) (I1 a.2 (r.promos.getD (gI o (i:Int).toNat).toNat default).rate),a.2 - I1 a.2 (r.promos.getD (gI o (i:Int).toNat).toNat default).rate)) (G':=G++[(r.promos.getD (gI o (i:Int).toNat).toNat default).group]) hnext.symm (hwp hR3) (by rw [A5,hw];rfl) (by rw [A9B,hG];rfl) (by rw [List.length_append];show G.length+1≤_;omega) (by show (a.1.deals++[_]).length≤_;rw [List.length_append];show a.1.deals.length+1≤_;omega) ⟨by show 0≤a.2 - I1 a.2 (r.promos.getD (gI o (i:Int).toNat).toNat default).rate;omega,by show a.2 - I1 a.2 (r.promos.getD (gI o (i:Int).toNat).toNat default).rate≤_;omega⟩
structure A8T (s:O5):Prop where
 skus:s.skus.length≤100000
 cats:s.cats.length≤100000
structure A4w (r:F9):Prop where
 items:r.items.length≤100000
 promos:r.promos.length≤100000
 scope:∀ p∈r.promos,A8T p.scope
 parts:∀ p∈r.promos,p.parts.length≤100000
 part:∀ p∈r.promos,∀ x∈p.parts,A8T x.scope
 tiers:∀ p∈r.promos,p.tiers.length≤100000
 zones:r.tax.zones.length≤100000
 rates:∀ z∈r.tax.zones,z.rates.length≤100000
 order:r.policy.order.length≤100000
 credit:r.policy.credit.length≤100000
theorem A6M (s:O5) (h:A8T s) (st:St):S P 186 [J8 s] st fun v st'=>v=J8 s∧st'=st:=by
 have c1:=fun u=>A4z s.skus h.skus u
 have c2:=fun u=>A4z s.cats h.cats u
 refine A2E ?_
 refine A7 [1] C0 mixed Tryz.func186 (by rfl) rfl rfl rfl ?_;conv=>whnf
 intro b2 hb2;conv=>whnf
 refine ⟨[7],[],List.range 8,by kernel_rfl,?_⟩;conv=>whnf
 refine ⟨_,D2 (c1 _),?_⟩;conv=>whnf
 refine ⟨_,D2 (c2 _),?_⟩;conv=>whnf
 refine J7 (A0 ..) rfl (by omega) rfl (by rfl) ?_;conv=>whnf
 refine E9 (A0 ..) rfl (by omega) (A5 ..) ?_;conv=>whnf
 exact ⟨rfl,((F3.refl st).upd hb2).over hb2⟩
def B2I (p:B2) (sv:AV):AV:=.agg [eS p.id,eI p.kind,eI p.prio,eS p.group,eS p.code,eB p.closes,D6 p.scope.skus,D6 p.scope.cats,eI p.least,eI p.rate,eI p.amount,eI p.buy,eI p.get,sv,B1 3 L7 p.tiers]
def B6g (r:F9) (pv zv:AV):AV:=.agg [B1 4 E5 r.items,pv,eB r.tax.incl,eB r.tax.byOrder,eI r.tax.round,zv,eI r.ship.fee,eI r.ship.free,eI r.policy.window,eI r.policy.grace,eI r.policy.mode,eI r.policy.restock,B6 r.policy.order,B6 r.policy.credit]
def B6E (r:F9) (zv:AV):St→St→Prop:=fun s t=>ROut F3 177 4 (fun k=>S8 (r.tax.zones.getD k default)) r.tax.zones.length s zv t
abbrev prK (r:F9) (k:Nat):B2:=r.promos.getD k default
abbrev A9G (r:F9) (k:Nat):Nat→AV:=fun j=>O6 ((prK r k).parts.getD j default)
abbrev A9H (r:F9) (k:Nat):Nat:=(prK r k).parts.length
abbrev B5T (r:F9) (zv:AV) (sv:Nat→AV) (i:Nat):St→St→Prop:=A2T (B6E r zv) 237 3 (A9G r) (A9H r) sv i
abbrev A1Y (r:F9) (sv:Nat→AV) (i k:Nat):AV:=if k<i then B2I (prK r k) (sv k) else B9 (prK r k)
def A0L (r:F9) (pv zv:AV) (sv:Nat→AV) (i j:Nat):St→St→Prop:=fun s t=>ROut (B5T r zv sv i) 71 15 (A1Y r sv j) r.promos.length s pv t
theorem A2m (r:F9) (zv:AV):H2 (B6E r zv):=N2 C8 _ _ _ _ _
theorem U7 (r:F9) (pv zv:AV) (sv:Nat→AV) (i j:Nat):H2 (A0L r pv zv sv i j):=N2 (A1s (A2m r zv) sv i) _ _ _ _ _
theorem A0L.shift {r:F9} {pv zv:AV} {sv:Nat→AV} {st u:St} (h:A0L r pv zv sv r.promos.length r.promos.length st u):B4 [B6g r pv zv] u [I8 r] st:=by
 obtain ⟨s0,hc,hch⟩:=h
 obtain ⟨t1,h1,hR⟩:∃ t1,(∀ vs,B4 vs u vs t1)∧ROut (B6E r zv) 71 15 (fun k=>B9 (prK r k)) r.promos.length st pv t1:=by
  rcases hc with ⟨h0,rfl,rfl⟩ | ⟨h0,b,g,hb,rfl,rfl,hg⟩
  ·rw [h0] at hch ⊢
   exact ⟨u,fun vs=>B4.refl _ _,ROut.start hch _ _ _⟩
  ·obtain ⟨t',g',k1,k2,k3,_⟩:=B6W (A2m r zv) (bz:=b) (n:=r.promos.length)
    (pre:=fun k=>[eS (prK r k).id,eI (prK r k).kind,eI (prK r k).prio,eS (prK r k).group,eS (prK r k).code,eB (prK r k).closes,D6 (prK r k).scope.skus,D6 (prK r k).scope.cats,eI (prK r k).least,eI (prK r k).rate,eI (prK r k).amount,eI (prK r k).buy,eI (prK r k).get])
    (post:=fun k=>[B1 3 L7 (prK r k).tiers]) r.promos.length _ _ g (Nat.le_refl _) hch (A0 ..) (fun j hj=>by rw [hg j hj];unfold A1Y;rw [if_pos hj];rfl)
   rw [B8] at k2
   exact ⟨t',k1,_,.inr ⟨h0,b,g',hb,rfl,rfl,fun k hk=>(k3 k hk).trans rfl⟩,k2⟩
 obtain ⟨t2,h2,hZ⟩:=ROut.shift (A2m r zv) hR
 obtain ⟨t3,h3,hS⟩:=ROut.shift C8 hZ
 refine (h1 _).trans ((B4.agg ?_).trans (hS.shift _))
 refine B4.cons (B4.keep _ _) (B4.cons h2 ?_)
 refine B4.cons (B4.keep _ _) (B4.cons (B4.keep _ _) (B4.cons (B4.keep _ _) (B4.cons h3 (B4.keep _ _))))
set_option maxHeartbeats 4000000 in
theorem C2a (r:F9) (h:A4w r) (st:St):S P 97 [I8 r] st fun v st'=>v=I8 r∧st'=st:=by
 have cI:=fun u=>B1Y r.items h.items u
 have cP:=fun u=>B2a r.promos h.promos u
 have cZ:=fun u=>B3E r.tax.zones h.zones u
 have cO:=fun u=>A8c r.policy.order h.order u
 have cC:=fun u=>A8c r.policy.credit h.credit u
 have hn:=h.promos
 have hnz:=h.zones
 refine S.post (post:=fun v u=>∃ pv zv sv,v=B6g r pv zv∧A0L r pv zv sv r.promos.length r.promos.length st u) ?_ (fun v u hv=>by
  obtain ⟨pv,zv,sv,rfl,hR⟩:=hv
  exact ⟨_,_,⟨rfl,rfl⟩,hR.shift⟩)
 refine A8S [6,8] C0 mixed Tryz.func97 (by rfl) rfl rfl rfl ?_;conv=>whnf
 intro b1 hb1;conv=>whnf
 intro b2 hb2
 have h12:b1≠b2:=fun e=>by subst e;rw [A0] at hb2;cases hb2
 have hn2:st b2=none:=by rw [A9 h12.symm] at hb2;exact hb2
 conv=>whnf
 generalize hst:(upd (upd st b1 _) b2 _:St)=S0
 obtain ⟨f1,at1,hf1⟩:∃ f1:Nat→AV,S0 b1=some ⟨33,14,1,f1⟩∧f1 0=I8 r:=by rw [←hst,A9 h12];exact ⟨_,A0 ..,rfl⟩
 refine .inr ⟨[5,9,11,13,16],.qui 0 (.qui 1 (.qui 2 (.qui 3 (.qui 4 (.qui 6 (.qui 7 (.qui 8 (.qui 10 (.eff 5 [8] (.eff 9 [] (.eff 11 [] (.qui 12 (.eff 13 [] (.qui 14 (.qui 15 (.eff 16 [] (.done))))))))))))))))),by kernel_rfl,?_⟩;conv=>whnf
 refine ⟨_,fun s=>s b1=some ⟨33,14,1,f1⟩,at1,fun s hs=>E9 hs rfl (by omega) hf1 ⟨rfl,rfl⟩,?_⟩;conv=>whnf
 refine ⟨_,fun _=>True,trivial,fun s _=>D2 (cI s),?_⟩;conv=>whnf
 refine ⟨_,fun s=>s b1=some ⟨33,14,1,f1⟩,at1,fun s hs=>E9 hs rfl (by omega) hf1 ⟨rfl,rfl⟩,?_⟩;conv=>whnf
 refine ⟨_,fun s=>s b1=some ⟨33,14,1,f1⟩,at1,fun s hs=>E9 hs rfl (by omega) hf1 ⟨rfl,rfl⟩,?_⟩;conv=>whnf
 refine call (cP _) (fun pv s1 hP=>?_);conv=>whnf
 refine ⟨fun h=>hP.sup b1 _ h,?_⟩;conv=>whnf
 refine call (cZ _) (fun zv s2 hZ=>?_)
 have hR:A0L r pv zv (fun _=>.junk) 0 0 S0 s2:=ROut.congr ⟨s1,hP,s2,hZ,F3.refl _⟩ fun k _=>by unfold A1Y;rw [if_neg (by omega)]
 have pone:pv.one=true:=by rcases ROut.head hR with rfl | ⟨b,rfl⟩<;>rfl
 have hZh:zv=.emp∨∃ b,zv=.own 4 b 0 r.tax.zones.length:=ROut.head (show ROut F3 _ _ _ _ _ zv s2 from ⟨_,hZ,F3.refl _⟩)
 have zone1:zv.one=true:=by rcases hZh with rfl | ⟨b,rfl⟩<;>rfl
 have at1':=(U7 ..).sup hR b1 _ at1
 conv=>whnf
 refine J7 at1' rfl (by omega) hf1 (by rfl) ?_;conv=>whnf
 refine B4P (A0 ..) rfl rfl (by omega) (A5 ..) pone (by decide) ?_;conv=>whnf
 refine B4P (A0 ..) rfl rfl (by omega) (A5 ..) zone1 (by decide) ?_
 rw [B8,B8];conv=>whnf
 generalize hu:(upd s2 b1 _:St)=S2
 obtain ⟨g1,hS2,hg1⟩:∃ g1:Nat→AV,upd s2 b1 ⟨33,14,1,g1⟩=S2∧g1 0=B6g r pv zv:=by rw [←hu];exact ⟨_,rfl,by rw [A5];rfl⟩
 have hR1:=(U7 ..).write (y':=⟨33,14,1,g1⟩) hR at1
 rw [hS2] at hR1
 clear hu hR at1'
 -- the base
 obtain ⟨f2,at2,hf2⟩:∃ f2:Nat→AV,S0 b2=some ⟨33,14,1,f2⟩∧f2 0=K6 r33.zero:=by rw [←hst];exact ⟨_,A0 ..,rfl⟩
 have fin:∀ {sv:Nat→AV} {i j:Nat} {y y':Q3} {t:St},A0L r pv zv sv i j (upd (upd S0 b1 y) b2 y') t→A0L r pv zv sv i j st t:=fun {sv i j y y' t} hR=>by
  have e:upd (upd S0 b1 y) b2 y'=upd (upd st b1 y) b2 y':=by
   rw [←hst]
   funext c
   by_cases e2:c=b2
   ·subst e2;rw [A0,A0]
   ·rw [A9 e2,A9 e2]
    by_cases e1:c=b1
    ·subst e1;rw [A0,A0]
    ·rw [A9 e1,A9 e2,A9 e1,A9 e1]
  rw [e] at hR
  exact (U7 ..).drop ((U7 ..).drop hR (by rw [A9 h12.symm];exact hn2)) hb1
 obtain ⟨B0,hB0⟩:∃ B0,B0=upd S0 b1 ⟨33,14,1,g1⟩:=⟨_,rfl⟩
 rw [←hB0] at hR1
 have atB:B0 b1=some ⟨33,14,1,g1⟩:=by rw [hB0,A0]
 have at2B:B0 b2=some ⟨33,14,1,f2⟩:=by rw [hB0,A9 h12.symm];exact at2
 have fin2:∀ {sv:Nat→AV} {i j:Nat} {y y':Q3} {t:St},A0L r pv zv sv i j (upd (upd B0 b1 y) b2 y') t→A0L r pv zv sv i j st t:=fun hR=>by
  rw [hB0,B8] at hR;exact fin hR
 clear fin hst at1 hf1 at2 hB0 hS2
 rcases ROut.head hR1 with rfl | ⟨bP,rfl⟩
 case' inl =>
  have hn0:r.promos.length=0:=by
   rcases Nat.eq_zero_or_pos r.promos.length with h | h
   ·exact h
   ·obtain ⟨b,hb⟩:=ROut.own0 hR1 h;cases hb
  conv=>whnf
  refine E9 ((U7 ..).sup hR1 b1 _ atB) rfl (by omega) hg1 ?_;conv=>whnf
  refine A5K [1,2,24,25,26] ?_;conv=>whnf
  intro I
  obtain ⟨sv,hR2⟩:∃ sv,A0L r .emp zv sv r.promos.length r.promos.length B0 S2:=⟨_,by rw [hn0];exact hR1⟩
  obtain ⟨S3,hS3⟩:∃ S3,S3=S2:=⟨_,rfl⟩
  rw [←hS3] at hR2 ⊢
 case' inr =>
  conv=>whnf
  refine E9 ((U7 ..).sup hR1 b1 _ atB) rfl (by omega) hg1 ?_;conv=>whnf
  refine lp r.promos.length [1,2,24,25,26] (fun i vs u=>∃ sv,vs=[.optr 14 b1 0 0,.optr 14 b2 0 0,.own 15 bP 0 r.promos.length,eI r.promos.length,eI i]∧A0L r (.own 15 bP 0 r.promos.length) zv sv i i B0 u) ?_ ?_
  ·conv=>whnf
   exact ⟨_,rfl,hR1⟩
  rintro i vs S3 hi ⟨sv,rfl,hR2⟩
  conv=>whnf
  cases h1:decide ((i:Int)<(r.promos.length:Int))
 case inr.refine_2.true =>
  have hi':=H0 h1
  have hB:=U7 r (.own 15 bP 0 r.promos.length) zv sv i i
  have hp:prK r i∈r.promos:=B5 hi'
  obtain ⟨p,hpe⟩:∃ p,p=prK r i:=⟨_,rfl⟩
  obtain ⟨gP,atP,hgP,-⟩:=ROut.cell (A1s (A2m r zv) sv i) hR2 (by omega)
  have hgi:gP (0+(i:Int).toNat)=B9 p:=by rw [show 0+(i:Int).toNat=i by omega,hgP i hi',hpe];unfold A1Y;rw [if_neg (by omega)]
  rw [←hpe] at hp
  have c1:=fun u=>A6M p.scope (h.scope _ hp) u
  have c2:=fun u=>B3B p.parts (h.parts _ hp) u
  have c3:=fun u=>B2c p.tiers (h.tiers _ hp) u
  have hm:=h.parts _ hp
  have cS:=fun x (hx:x∈p.parts) u=>A6M x.scope (h.part _ hp x hx) u
  have hb4':∀ {b4:Nat},S3 b4=none→B0 b4=none:=fun hb=>(hB.sup hR2).none hb
  conv=>whnf
  refine ⟨rfl,⟨by omega,by omega⟩,?_⟩;conv=>whnf
  refine E9 atP rfl (by omega) hgi ?_;conv=>whnf
  intro b4 hb4;conv=>whnf
  refine J7 (A0 ..) rfl (by omega) rfl (by rfl) ?_
  rw [B8];conv=>whnf
  generalize hu:(upd S3 b4 _:St)=S4
  obtain ⟨f4,hS4,hf4⟩:∃ f4:Nat→AV,upd S3 b4 ⟨71,15,1,f4⟩=S4∧f4 0=B9 p:=by rw [←hu];exact ⟨_,rfl,by rw [A5];rfl⟩
  have at4:S4 b4=some ⟨71,15,1,f4⟩:=by rw [←hS4,A0]
  have hR4:=hB.begin (y:=⟨71,15,1,f4⟩) hR2 hb4
  rw [hS4] at hR4
  have hb4B:B0 b4=none:=hb4' hb4
  have h14:b1≠b4:=fun e=>by subst e;rw [atB] at hb4B;cases hb4B
  clear hu hb4' hR2 atP hgP hgi
  refine .inr ⟨[5,10,12,14],.qui 0 (.qui 1 (.qui 2 (.qui 3 (.qui 4 (.qui 6 (.qui 7 (.qui 9 (.eff 5 [7] (.qui 8 (.eff 10 [] (.qui 11 (.eff 12 [] (.qui 13 (.eff 14 [] (.done))))))))))))))),by kernel_rfl,?_⟩;conv=>whnf
  refine ⟨_,fun s=>s b4=some ⟨71,15,1,f4⟩,at4,fun s hs=>E9 hs rfl (by omega) hf4 ⟨rfl,rfl⟩,?_⟩;conv=>whnf
  refine ⟨_,fun _=>True,trivial,fun s _=>D2 (c1 s),?_⟩;conv=>whnf
  refine ⟨_,fun s=>s b4=some ⟨71,15,1,f4⟩,at4,fun s hs=>E9 hs rfl (by omega) hf4 ⟨rfl,rfl⟩,?_⟩;conv=>whnf
  refine ⟨_,fun s=>s b4=some ⟨71,15,1,f4⟩,at4,fun s hs=>E9 hs rfl (by omega) hf4 ⟨rfl,rfl⟩,?_⟩;conv=>whnf
  refine call (c2 _) (fun qv s5 hQ=>?_);conv=>whnf
  refine ⟨fun h=>hQ.sup b4 _ h,?_⟩;conv=>whnf
  refine ⟨_,fun _=>True,trivial,fun s _=>D2 (c3 s),?_⟩
  have hQh:qv=.emp∨∃ b,qv=.own 3 b 0 p.parts.length:=ROut.head (show ROut F3 _ _ _ _ _ qv s5 from ⟨_,hQ,F3.refl _⟩)
  have qone:qv.one=true:=by rcases hQh with rfl | ⟨b,rfl⟩<;>rfl
  conv=>whnf
  refine J7 (hQ.sup b4 _ at4) rfl (by omega) hf4 (by rfl) ?_;conv=>whnf
  refine B4P (A0 ..) rfl rfl (by omega) (A5 ..) qone (by decide) ?_;conv=>whnf
  refine J7 (A0 ..) rfl (by omega) (A5 ..) (by rfl) ?_
  rw [B8,B8];conv=>whnf
  generalize hu:(upd s5 b4 _:St)=S5
  obtain ⟨f5,hS5,hf5⟩:∃ f5:Nat→AV,upd s5 b4 ⟨71,15,1,f5⟩=S5∧f5 0=B2I p qv:=by rw [←hu];exact ⟨_,rfl,by rw [A5];rfl⟩
  clear hu
  obtain ⟨sv',hsv1,hsv2⟩:∃ sv':Nat→AV,(∀ j,j<i→sv' j=sv j)∧A0L r (.own 15 bP 0 r.promos.length) zv sv' (i+1) i (upd B0 b4 ⟨71,15,1,f4⟩) s5∧sv' i=qv:=by
   refine ⟨fun j=>if j=i then qv else sv j,fun j hj=>if_neg (by omega),?_,if_pos rfl⟩
   obtain ⟨s0,hc,hch⟩:=hR4
   refine ⟨s0,H9.congr hc (fun k hk=>?_),B3z (A2m r zv) hch (by show H9 _ _ (A9G r i) _ (A9H r i) _ _;unfold A9G A9H;rw [←hpe];exact hQ)⟩
   unfold A1Y
   by_cases e:k<i
   ·rw [if_pos e,if_pos e]
    show B2I _ (sv k)=B2I _ (if k=i then qv else sv k)
    rw [if_neg (by omega)]
   ·rw [if_neg e,if_neg e]
  obtain ⟨hR5,hsvi⟩:=hsv2
  have hB5:=U7 r (.own 15 bP 0 r.promos.length) zv sv' (i+1) i
  have hR5:=hB5.write (y':=⟨71,15,1,f5⟩) hR5 (A0 ..)
  rw [B8,hS5] at hR5
  have at5:=hB5.sup hR5 b4 _ (A0 ..)
  clear hR4 hQ at4 hS4 hS5 hsv1
  refine E9 at5 rfl (by omega) hf5 ?_
  have hcv:B5T r zv sv' (i+1)=fun s t=>ROut (B5T r zv sv' i) 237 3 (fun j=>O6 (p.parts.getD j default)) p.parts.length s (sv' i) t:=by
   show (fun s t=>ROut _ _ _ (A9G r i) (A9H r i) s (sv' i) t)=_
   unfold A9G A9H;rw [←hpe]
  rw [hsvi] at hcv
  rcases hQh with rfl | ⟨bQ,rfl⟩
  case' inl =>
   conv=>whnf
   refine A5K [1,2,3,4,24,25,26,44,45,46] ?_;conv=>whnf
   intro I
   obtain ⟨S6,hS6⟩:∃ S6,S6=S5:=⟨_,rfl⟩
   have hR6:=hR5
   rw [←hS6] at hR6 ⊢
  case' inr =>
   conv=>whnf
   refine lp p.parts.length [1,2,3,4,24,25,26,44,45,46] (fun k vs w=>vs=[.optr 14 b1 0 0,.optr 14 b2 0 0,eI i,.optr 15 b4 0 0,.own 15 bP 0 r.promos.length,eI r.promos.length,eI i,.own 3 bQ 0 p.parts.length,eI p.parts.length,eI k]∧A0L r (.own 15 bP 0 r.promos.length) zv sv' (i+1) i (upd B0 b4 ⟨71,15,1,f5⟩) w) ?_ ?_
   ·conv=>whnf
    exact ⟨rfl,hR5⟩
   rintro k vs S6 hk ⟨rfl,hR6⟩
   conv=>whnf
   cases h2:decide ((k:Int)<(p.parts.length:Int))
  case inr.refine_2.true =>
   have hk':=H0 h2
   have at6:=hB5.sup hR6 b4 _ (A0 ..)
   obtain ⟨s0,hc,hch⟩:=hR6
   rw [hcv] at hch
   obtain ⟨gQ,atQ,hgQ,putQ⟩:=ROut.cell (A1s (A2m r zv) sv' i) hch (by omega)
   have hgk:gQ (0+(k:Int).toNat)=O6 (p.parts.getD k default):=by rw [show 0+(k:Int).toNat=k by omega];exact hgQ k hk'
   have cX:=fun u=>cS _ (B5 hk') u
   generalize hx:p.parts.getD k default=x at hgk cX
   conv=>whnf
   refine ⟨rfl,⟨by omega,by omega⟩,?_⟩;conv=>whnf
   refine E9 atQ rfl (by omega) hgk ?_;conv=>whnf
   refine .inl ⟨[8],[],List.range 9,by kernel_rfl,?_⟩;conv=>whnf
   refine E9 at6 rfl (by omega) hf5 ?_;conv=>whnf
   refine ⟨_,D2 (cX _),?_⟩;conv=>whnf
   refine ⟨rfl,⟨by omega,by omega⟩,?_⟩;conv=>whnf
   refine J7 atQ rfl (by omega) hgk (by rfl) ?_;conv=>whnf
   refine ⟨rfl,?_⟩;conv=>whnf
   refine nx hk' ⟨by rw [C2 (by omega)],s0,hc,?_⟩
   rw [hcv]
   refine putQ _ _ fun j hj=>?_
   by_cases e:j=k
   ·rw [e,hx,show 0+(k:Int).toNat=k by omega,A5];rfl
   ·rw [F4 (by omega)];exact hgQ j hj
  case' inr.refine_2.false =>
   obtain rfl:=D7 h2 hk
  all_goals
   have at6:=hB5.sup hR6 b4 _ (A0 ..)
   have atB6:=hB5.sup hR6 b1 _ ((A9 h14).trans atB)
   obtain ⟨gP2,atP2,hgP2,putP⟩:=ROut.cell (A1s (A2m r zv) sv' (i+1)) hR6 (by omega)
   have hgi2:gP2 (0+(i:Int).toNat)=B9 p:=by rw [show 0+(i:Int).toNat=i by omega,hgP2 i hi',hpe];unfold A1Y;rw [if_neg (by omega)]
   conv=>whnf
   refine E9 atB6 rfl (by omega) hg1 ?_;conv=>whnf
   refine E9 at6 rfl (by omega) hf5 ?_;conv=>whnf
   refine ⟨rfl,⟨by omega,by omega⟩,?_⟩;conv=>whnf
   refine J7 atP2 rfl (by omega) hgi2 (by rfl) ?_;conv=>whnf
   refine ⟨rfl,?_⟩;conv=>whnf
   refine nx hi' ⟨sv',by rw [C2 (by omega)],(U7 ..).drop (y:=⟨71,15,1,f5⟩) (putP _ (A1Y r sv' (i+1)) fun k hk=>?_) hb4B⟩
   unfold A1Y
   by_cases e:k=i
   ·rw [if_pos (by omega),e,show 0+(i:Int).toNat=i by omega,A5,hsvi,←hpe];rfl
   ·rw [F4 (by omega),hgP2 k hk]
    unfold A1Y
    by_cases e2:k<i
    ·rw [if_pos e2,if_pos (by omega)]
    ·rw [if_neg e2,if_neg (by omega)]
 case' inr.refine_2.false =>
  obtain rfl:=D7 h1 hi
 all_goals
  have atB3:=(U7 ..).sup hR2 b1 _ atB
  conv=>whnf
  refine E9 atB3 rfl (by omega) hg1 ?_
  rcases hZh with rfl | ⟨bz,rfl⟩
  case' inl =>
   conv=>whnf
   refine A5K [1,2,68,69,70] ?_;conv=>whnf
   intro I
   obtain ⟨S7,hS7⟩:∃ S7,S7=S3:=⟨_,rfl⟩
   have hR7:=hR2
   rw [←hS7] at hR7 ⊢
  case' inr =>
   conv=>whnf
   obtain ⟨RR,hRe,hRR⟩:∃ RR:St→St→Prop,RR=A0L r _ _ sv _ _∧RR B0 S3:=⟨_,rfl,hR2⟩
   refine lp r.tax.zones.length [1,2,68,69,70] (fun i vs u=>vs=[.optr 14 b1 0 0,.optr 14 b2 0 0,.own 4 bz 0 r.tax.zones.length,eI r.tax.zones.length,eI i]∧RR B0 u) ?_ ?_
   ·conv=>whnf
    exact ⟨rfl,hRR⟩
   clear hRR
   rintro i vs S7 hi7 ⟨rfl,hR7⟩
   conv=>whnf
   cases h7:decide ((i:Int)<(r.tax.zones.length:Int))
  case inr.refine_2.true =>
   have hi':=H0 h7
   rw [hRe] at hR7
   have hz:r.tax.zones.getD i default∈r.tax.zones:=B5 hi'
   have cz:=fun u=>B3D (r.tax.zones.getD i default) (h.rates _ hz) u
   have atB7:=(U7 ..).sup hR7 b1 _ atB
   obtain ⟨s0,hc,hch⟩:=hR7
   obtain ⟨s',hZ',back⟩:=A6L _ hch
   obtain ⟨gz,atz,hgz,putz⟩:=ROut.cell C8 hZ' (by omega)
   have hgi:gz (0+(i:Int).toNat)=S8 (r.tax.zones.getD i default):=by rw [show 0+(i:Int).toNat=i by omega];exact hgz i hi'
   generalize hx:r.tax.zones.getD i default=x at hgi cz
   conv=>whnf
   refine ⟨rfl,⟨by omega,by omega⟩,?_⟩;conv=>whnf
   refine E9 atz rfl (by omega) hgi ?_;conv=>whnf
   refine .inl ⟨[7],[],List.range 8,by kernel_rfl,?_⟩;conv=>whnf
   refine E9 atB7 rfl (by omega) hg1 ?_;conv=>whnf
   refine ⟨_,D2 (cz _),?_⟩;conv=>whnf
   refine ⟨rfl,⟨by omega,by omega⟩,?_⟩;conv=>whnf
   refine J7 atz rfl (by omega) hgi (by rfl) ?_;conv=>whnf
   refine ⟨rfl,?_⟩;conv=>whnf
   refine nx hi' ⟨by rw [C2 (by omega)],by rw [hRe];refine ⟨s0,hc,back _ (putz _ _ fun j hj=>?_)⟩;exact (by
    by_cases e:j=i
    ·rw [e,hx,show 0+(i:Int).toNat=i by omega,A5];rfl
    ·rw [F4 (by omega)];exact hgz j hj)⟩
  case' inr.refine_2.false =>
   obtain rfl:=D7 h7 hi7
   rw [hRe] at hR7
  all_goals
   have atB7:=(U7 ..).sup hR7 b1 _ atB
   have at27:=(U7 ..).sup hR7 b2 _ at2B
   conv=>whnf
   refine .inl ⟨[10,13],[],List.range 14,by kernel_rfl,?_⟩;conv=>whnf
   refine E9 atB7 rfl (by omega) hg1 ?_;conv=>whnf
   refine ⟨_,D2 (cO _),?_⟩;conv=>whnf
   refine E9 atB7 rfl (by omega) hg1 ?_;conv=>whnf
   refine ⟨_,D2 (cC _),?_⟩;conv=>whnf
   refine J7 atB7 rfl (by omega) hg1 (by rfl) ?_;conv=>whnf
   refine J7 (A0 ..) rfl (by omega) (A5 ..) (by rfl) ?_
   rw [B8];conv=>whnf
   refine E9 (A0 ..) rfl (by omega) (A5 ..) ?_;conv=>whnf
   refine J7 ((A9 h12.symm).trans at27) rfl (by omega) hf2 (by rfl) ?_;conv=>whnf
   refine E9 (A0 ..) rfl (by omega) (A5 ..) ?_;conv=>whnf
   exact ⟨_,_,sv,rfl,fin2 ((U7 ..).write ((U7 ..).write hR7 atB) ((A9 h12.symm).trans at2B))⟩
def A1H (p:B2):Bool:=!(p.kind==4)&&!(p.kind==7)
def G1 (r:F9) (codes:List E0):List Int:=C5 ((P2 r.promos codes).filter fun x=>A1H (D9 r.promos x))
def Q9 (r:F9) (codes:List E0):A0w:=⟨r,codes,[],G1 r codes,(G1 r codes).map fun x=>(D9 r.promos x).scope,[]⟩
theorem A5P {r:F9} {codes:List E0} {x:Int} (h:x∈G1 r codes):0≤x∧x.toNat<r.promos.length :=
 T9 ((W5 _ _).mem_iff.1 (List.mem_filter.1 ((Y4 _).mem_iff.1 h)).1)
theorem B3N {α : Type} [Inhabited α] {l:List α} {i:Nat} (h:i<l.length) (p : α→Bool):(l.take (i+1)).filter p=(l.take i).filter p++(if p (l.getD i default)=true then [l.getD i default] else []):=by
 rw [L2 h,List.filter_append]
 congr 1
 by_cases hp:p (l.getD i default)=true
 ·rw [if_pos hp,List.filter_cons_of_pos hp];rfl
 ·rw [if_neg hp,List.filter_cons_of_neg hp];rfl
set_option maxHeartbeats 4000000 in
theorem B1i {N:Nat} (hN:A2h N) (r:F9) (codes:List E0) (hf:V6 r) (hc:codes.length≤Big) (h20:(places r.promos codes r.promos.length).length≤N) (hfew:J0 r=true→A4w r) (st:St) :
  S P 23 [I8 r,D6 codes] st fun v st'=>(J0 r=false∧v=.tuple [.nilp,eI 10]∧st'=st)∨(J0 r=true∧R9 codes=false∧v=.tuple [.nilp,eI 2]∧st'=st) ∨
   (J0 r=true∧R9 codes=true∧∃ bd,v=.tuple [.optr 19 bd 0 0,eI 0]∧A4a bd (Q9 r codes) st st'):=by
 refine S.post (post:=fun v st'=>(J0 r=false∧v=.tuple [.nilp,eI 10]∧st'=st)∨(J0 r=true∧R9 codes=false∧v=.tuple [.nilp,eI 2]∧st'=st) ∨
   (J0 r=true∧R9 codes=true∧∃ bd pv cv f,v=.tuple [.optr 19 bd 0 0,eI 0]∧st bd=none∧f 0=A2H (Q9 r codes) .emp pv cv .emp ∧
    ROut (fun s t=>ROut F3 3 1 (fun k=>eI (gI (G1 r codes) k)) (G1 r codes).length s pv t) 67 2 (fun k=>J8 ((Q9 r codes).scopes.getD k default)) (G1 r codes).length (upd st bd ⟨165,19,1,f⟩) cv st')) ?_ (fun v t' hv=>?_)
 ·have c1:=fun u=>B7o r hf u
  have c2:=fun u=>B6P codes hc u
  refine A8S [2] C0 mixed Tryz.func23 (by rfl) rfl rfl rfl ?_;conv=>whnf
  refine B3 (c1 _) ?_;conv=>whnf
  cases hr:J0 r
  case false =>
   conv=>whnf
   exact .inl ⟨rfl,rfl,rfl⟩
  conv=>whnf
  refine B3 (c2 _) ?_;conv=>whnf
  cases hcc:R9 codes
  case false =>
   conv=>whnf
   exact .inr (.inl ⟨rfl,rfl,rfl,rfl⟩)
  have hfw:=hfew hr
  have hpC:promosC r.promos=true:=by
   unfold J0 at hr
   simp only [Bool.and_eq_true] at hr
   exact hr.1.1.1.2
  have hp60:=(A2v hpC).few
  have hc4:codes.length≤100000:=by
   unfold R9 at hcc
   simp only [Bool.and_eq_true,decide_eq_true_eq] at hcc
   omega
  conv=>whnf
  refine B3 (C2a r hfw _) ?_;conv=>whnf
  refine B3 (A4z codes hc4 _) ?_;conv=>whnf
  intro bd hbd;conv=>whnf
  refine call (B7j hN r.promos codes hp60 (Nat.le_trans hc (by decide)) h20 _) (fun v u hv=>?_)
  obtain ⟨⟨o,ho,rfl⟩,rfl⟩:=hv
  rw [A4U hpC ho]
  have eP:G1 r codes=C5 ((P2 r.promos codes).filter fun x=>A1H (D9 r.promos x)):=rfl
  have hOm:∀ x∈P2 r.promos codes,0≤x∧x.toNat<r.promos.length:=fun x hx=>T9 ((W5 _ _).mem_iff.1 hx)
  have hOl:(P2 r.promos codes).length≤60:=by
   rw [(W5 _ _).length_eq]
   have:=P3 r.promos codes r.promos.length
   omega
  clear ho
  generalize P2 r.promos codes=O at eP hOm hOl
  have hFl:∀ i,((O.take i).filter fun x=>A1H (D9 r.promos x)).length≤60:=fun i=>Nat.le_trans (List.length_filter_le ..) (by rw [List.length_take];omega)
  conv=>whnf
  refine lp O.length [2,6,29,30,31] (fun i vs u=>∃ pv f,vs=[.fptr (I8 r) 0,.optr 19 bd 0 0,B6 O,eI O.length,eI i]∧f 0=A2H (Q9 r codes) .emp pv .emp .emp∧ROut F3 3 1 (fun k=>eI (gI ((O.take i).filter fun x=>A1H (D9 r.promos x)) k)) ((O.take i).filter fun x=>A1H (D9 r.promos x)).length (upd st bd ⟨165,19,1,f⟩) pv u) ?_ ?_
  ·conv=>whnf
   exact ⟨.emp,_,rfl,rfl,show ROut _ _ _ _ 0 _ _ _ from ROut.start (F3.refl _) _ _ _⟩
  rintro i vs u hi ⟨pv,f,rfl,hf,hR⟩
  have hnx:=fun h=>B3N (l:=O) (i:=i) h fun x=>A1H (D9 r.promos x)
  have hFi:=hFl i
  obtain ⟨Fi,hFie⟩:∃ Fi,Fi=(O.take i).filter fun x=>A1H (D9 r.promos x):=⟨_,rfl⟩
  rw [←hFie] at hR hnx hFi
  have atd:=ROut.sup C8 hR bd _ (A0 ..)
  conv=>whnf
  cases h1:decide ((i:Int)<(O.length:Int))
  case true =>
   have hi':=H0 h1
   have hnx:=hnx hi'
   obtain ⟨x,hx⟩:∃ x,x=O.getD (i:Int).toNat default:=⟨_,rfl⟩
   have hxm:=hOm _ (show O.getD i default∈O from B5 hi')
   rw [show O.getD i default=x from hx.symm] at hxm hnx
   have epr:D9 r.promos x=r.promos.getD x.toNat default:=rfl
   conv=>whnf
   refine ⟨rfl,⟨by omega,by omega⟩,?_⟩;conv=>whnf
   rw [←hx]
   refine ⟨rfl,⟨by omega,by omega⟩,?_⟩;conv=>whnf
   rw [←epr]
   have ePl:∀ a b,((D9 r.promos x).kind != 4)=a→((D9 r.promos x).kind != 7)=b→A1H (D9 r.promos x)=(a&&b):=fun a b ha hb=>by rw [←ha,←hb];rfl
   have off:A1H (D9 r.promos x)=false→(O.take (i+1)).filter (fun x=>A1H (D9 r.promos x))=Fi:=fun h=>by rw [hnx,h];simp
   cases h4:((D9 r.promos x).kind != 4)
   case false =>
    conv=>whnf
    refine ⟨rfl,?_⟩;conv=>whnf
    exact nx hi' ⟨pv,f,by rw [C2 (by omega)],hf,by rw [off (ePl _ _ h4 rfl)];exact hR⟩
   conv=>whnf
   cases h7:((D9 r.promos x).kind != 7)
   case false =>
    conv=>whnf
    refine ⟨rfl,?_⟩;conv=>whnf
    exact nx hi' ⟨pv,f,by rw [C2 (by omega)],hf,by rw [off (ePl _ _ h4 h7)];exact hR⟩
   have hon:(O.take (i+1)).filter (fun x=>A1H (D9 r.promos x))=Fi++[x]:=by rw [hnx,ePl _ _ h4 h7];rfl
   rcases ROut.head hR with rfl | ⟨bp,rfl⟩
   all_goals
    conv=>whnf
    refine E9 atd rfl (by omega) hf ?_;conv=>whnf
    refine ROut.app (q:=r3) C8 rfl rfl rfl rfl rfl (f:=fun k=>eI (gI (Fi++[x]) k)) (by show eI _=eI _;unfold gI;rw [A7E,hx]) (by show (Fi.length+1) * 8≤140737488355328;omega) (ROut.congr hR fun k hk=>by show eI _=eI _;unfold gI;rw [A0g hk]) (fun pv' u' hR'=>?_);conv=>whnf
    refine B4P (ROut.sup C8 hR' bd _ (A0 ..)) rfl rfl (by omega) hf (ROut.one hR') (by decide) ?_;conv=>whnf
    refine ⟨rfl,?_⟩;conv=>whnf
    refine nx hi' ⟨pv',G6 f 0 (A2H (Q9 r codes) .emp pv' .emp .emp),by rw [C2 (by omega)],A5 ..,?_⟩
    rw [hon,List.length_append]
    exact ROut.putB C8 hR' _
  case false =>
   obtain rfl:=D7 h1 hi
   have hFe:Fi=O.filter fun x=>A1H (D9 r.promos x):=by rw [hFie,List.take_length]
   rw [←hFe] at eP
   rw [eP]
   clear hnx hFie hFe hFl hOm
   have hsl:=Q2 Fi
   rcases ROut.head hR with rfl | ⟨bp,rfl⟩
   case' inl =>
    conv=>whnf
    refine E9 atd rfl (by omega) hf ?_;conv=>whnf
    refine call (A5D C8 (by omega) hR) (fun v u2 hv=>?_)
    obtain ⟨rfl,hR2⟩:=hv
    have h0:Fi.length=0:=by
     rcases Nat.eq_zero_or_pos Fi.length with h | h
     ·exact h
     ·obtain ⟨b,hb⟩:=ROut.own0 hR h;cases hb
   case' inr =>
    conv=>whnf
    refine E9 atd rfl (by omega) hf ?_;conv=>whnf
    refine call (A5D C8 (by omega) hR) (fun v u2 hv=>?_)
    obtain ⟨rfl,hR2⟩:=hv
   all_goals
    have atd2:=ROut.sup C8 hR2 bd _ (A0 ..)
    rw [←hsl] at hR2
    have hPm:∀ x∈C5 Fi,0≤x∧x.toNat<r.promos.length:=fun x hx=>A5P (codes:=codes) (by rw [eP];exact hx)
    have hSc:∀ i,i<(C5 Fi).length→(Q9 r codes).scopes.getD i default=(D9 r.promos (gI (C5 Fi) i)).scope:=fun i hi=>by
     show ((G1 r codes).map _).getD i default=_
     rw [eP];exact E2 (fun x=>(D9 r.promos x).scope) _ hi
    generalize C5 Fi=PL at hR2 hsl hPm hSc ⊢
   case inl =>
    conv=>whnf
    refine E9 atd2 rfl (by omega) hf ?_;conv=>whnf
    refine A5K [6,66,67,68] ?_;conv=>whnf
    intro I
    refine .inr (.inr ⟨rfl,rfl,bd,.emp,.emp,f,rfl,hbd,hf,?_⟩)
    rw [show PL.length=0 by omega] at hR2 ⊢
    exact ROut.start hR2 _ _ _
   case inr =>
    rw [←hsl] at hf
    have hBP:=N2 C8 3 1 (fun k=>eI (gI PL k)) PL.length (.own 1 bp 0 PL.length)
    conv=>whnf
    refine E9 atd2 rfl (by omega) hf ?_;conv=>whnf
    refine lp PL.length [6,66,67,68] (fun i vs u=>∃ cv f,vs=[.optr 19 bd 0 0,.own 1 bp 0 PL.length,eI PL.length,eI i]∧f 0=A2H (Q9 r codes) .emp (.own 1 bp 0 PL.length) cv .emp∧ROut (fun s t=>ROut F3 3 1 (fun k=>eI (gI PL k)) PL.length s (.own 1 bp 0 PL.length) t) 67 2 (fun k=>J8 ((Q9 r codes).scopes.getD k default)) i (upd st bd ⟨165,19,1,f⟩) cv u) ?_ ?_
    ·conv=>whnf
     exact ⟨.emp,f,rfl,hf,ROut.start hR2 _ _ _⟩
    clear hR2 hf atd2 hR atd
    rintro i vs u hi ⟨cv,f,rfl,hf,hR⟩
    have atd:=ROut.sup hBP hR bd _ (A0 ..)
    conv=>whnf
    cases h2:decide ((i:Int)<(PL.length:Int))
    case false =>
     obtain rfl:=D7 h2 hi
     conv=>whnf
     exact .inr (.inr ⟨rfl,rfl,bd,.own 1 bp 0 PL.length,cv,f,rfl,hbd,hf,hR⟩)
    have hi':=H0 h2
    obtain ⟨s0,hcS,hin⟩:=id hR
    obtain ⟨gp,atp,hgp,-⟩:=ROut.cell C8 hin (by omega)
    have hgi:gp (0+(i:Int).toNat)=eI (gI PL i):=by rw [show 0+(i:Int).toNat=i by omega];exact hgp i hi'
    have hxm:=hPm (gI PL i) (B5 hi')
    have hsc:=hSc i hi'
    obtain ⟨x,hx⟩:∃ x,x=gI PL i:=⟨_,rfl⟩
    rw [←hx] at hgi hxm hsc
    rcases ROut.head hR with rfl | ⟨bc,rfl⟩
    all_goals
     conv=>whnf
     refine ⟨rfl,⟨by omega,by omega⟩,?_⟩;conv=>whnf
     refine E9 atp rfl (by omega) hgi ?_;conv=>whnf
     refine .inr ⟨[15,18],.qui 0 (.qui 1 (.qui 2 (.qui 3 (.qui 4 (.qui 5 (.qui 6 (.qui 7 (.qui 8 (.qui 9 (.qui 10 (.qui 11 (.qui 12 (.qui 13 (.qui 14 (.eff 15 [] (.qui 16 (.qui 17 (.eff 18 [] (.done))))))))))))))))))),by kernel_rfl,?_⟩;conv=>whnf
     refine ⟨_,fun s=>s bd=some ⟨165,19,1,f⟩,atd,fun s hs=>E9 hs rfl (by omega) hf ⟨rfl,rfl⟩,?_⟩;conv=>whnf
     refine ⟨_,fun s=>s bd=some ⟨165,19,1,f⟩,atd,fun s hs=>E9 hs rfl (by omega) hf ⟨rfl,rfl⟩,?_⟩;conv=>whnf
     refine ⟨rfl,⟨hxm.1,by show x<(r.promos.length:Int);omega⟩,?_⟩;conv=>whnf
     refine ⟨_,fun _=>True,trivial,fun s _=>⟨rfl,rfl⟩,?_⟩;conv=>whnf
     refine ⟨_,fun _=>True,trivial,fun s _=>⟨rfl,rfl⟩,?_⟩;conv=>whnf
     refine ROut.app (q:=r67) hBP rfl rfl rfl rfl rfl (f:=fun k=>J8 ((Q9 r codes).scopes.getD k default)) (by show _=J8 _;rw [hsc];rfl) (by show (i+1) * 48≤140737488355328;omega) hR (fun cv' u' hR'=>?_);conv=>whnf
     refine B4P (ROut.sup hBP hR' bd _ (A0 ..)) rfl rfl (by omega) hf (ROut.one hR') (by decide) ?_;conv=>whnf
     refine ⟨rfl,?_⟩;conv=>whnf
     exact nx hi' ⟨cv',G6 f 0 (A2H (Q9 r codes) .emp (.own 1 bp 0 PL.length) cv' .emp),by rw [C2 (by omega)],A5 ..,ROut.putB hBP hR' _⟩
 ·rcases hv with ⟨h1,rfl,rfl⟩ | ⟨h1,h2,rfl,rfl⟩ | ⟨h1,h2,bd,pv,cv,f,rfl,hbd,hf,hR⟩
  ·exact ⟨_,_,.inl ⟨h1,rfl,rfl⟩,B4.refl _ _⟩
  ·exact ⟨_,_,.inr (.inl ⟨h1,h2,rfl,rfl⟩),B4.refl _ _⟩
  ·have hBP:=N2 C8 3 1 (fun k=>eI (gI (G1 r codes) k)) (G1 r codes).length pv
   have atd:=ROut.sup hBP hR bd _ (A0 ..)
   obtain ⟨t1,sh1,hR1⟩:=ROut.shift hBP hR
   have atd1:=hBP.sup hR1 bd _ (A0 ..)
   have hc1:=fun vs=>B4.cell (vs:=vs) (pre:=[B1 4 E5 r.items,B1 15 B9 r.promos,eB r.tax.incl,eB r.tax.byOrder,eI r.tax.round,B1 4 S8 r.tax.zones,eI r.ship.fee,eI r.ship.free,eI r.policy.window,eI r.policy.grace,eI r.policy.mode,eI r.policy.restock,B6 r.policy.order,B6 r.policy.credit,D6 codes,.emp,pv]) (post:=[.emp]) sh1 atd atd1 (show 0<1 by omega) hf rfl
   obtain ⟨f2,hf2,hc1,hR2⟩:∃ f2:Nat→AV,f2 0=A2H (Q9 r codes) .emp pv (.arr 2 (G1 r codes).length (fun k=>J8 ((Q9 r codes).scopes.getD k default))) .emp∧(∀ vs,B4 vs t' vs (upd t1 bd ⟨165,19,1,f2⟩))∧ROut F3 3 1 (fun k=>eI (gI (G1 r codes) k)) (G1 r codes).length (upd st bd ⟨165,19,1,f2⟩) pv (upd t1 bd ⟨165,19,1,f2⟩) :=
    ⟨_,A5 ..,hc1,ROut.putB C8 hR1 _⟩
   obtain ⟨t2,sh2,hS2⟩:=ROut.shift C8 hR2
   have atd2:=ROut.sup C8 hR2 bd _ (A0 ..)
   have atd3:=hS2 bd _ (A0 ..)
   have hc2:=fun vs=>B4.cell (vs:=vs) (pre:=[B1 4 E5 r.items,B1 15 B9 r.promos,eB r.tax.incl,eB r.tax.byOrder,eI r.tax.round,B1 4 S8 r.tax.zones,eI r.ship.fee,eI r.ship.free,eI r.policy.window,eI r.policy.grace,eI r.policy.mode,eI r.policy.restock,B6 r.policy.order,B6 r.policy.credit,D6 codes,.emp]) (post:=[.arr 2 (G1 r codes).length (fun k=>J8 ((Q9 r codes).scopes.getD k default)),.emp]) sh2 atd2 atd3 (show 0<1 by omega) hf2 rfl
   obtain ⟨f3,hf3,hc2,hS3⟩:∃ f3:Nat→AV,f3 0=A2H (Q9 r codes) .emp (B6 (G1 r codes)) (.arr 2 (G1 r codes).length (fun k=>J8 ((Q9 r codes).scopes.getD k default))) .emp∧(∀ vs,B4 vs (upd t1 bd ⟨165,19,1,f2⟩) vs (upd t2 bd ⟨165,19,1,f3⟩))∧F3 (upd st bd ⟨165,19,1,f3⟩) (upd t2 bd ⟨165,19,1,f3⟩) :=
    ⟨_,A5 ..,hc2,by
     have:=C8.write (y':=⟨165,19,1,G6 f2 0 (.agg ([B1 4 E5 r.items,B1 15 B9 r.promos,eB r.tax.incl,eB r.tax.byOrder,eI r.tax.round,B1 4 S8 r.tax.zones,eI r.ship.fee,eI r.ship.free,eI r.policy.window,eI r.policy.grace,eI r.policy.mode,eI r.policy.restock,B6 r.policy.order,B6 r.policy.credit,D6 codes,.emp]++B6 (G1 r codes)::[.arr 2 (G1 r codes).length (fun k=>J8 ((Q9 r codes).scopes.getD k default)),.emp]))⟩) hS2 (A0 ..)
     rw [B8] at this;exact this⟩
   have at3:(upd t2 bd ⟨165,19,1,f3⟩) bd=some ⟨165,19,1,f3⟩:=A0 ..
   have hc3:=fun vs=>B4.cell (vs:=vs) (pre:=[B1 4 E5 r.items,B1 15 B9 r.promos,eB r.tax.incl,eB r.tax.byOrder,eI r.tax.round,B1 4 S8 r.tax.zones,eI r.ship.fee,eI r.ship.free,eI r.policy.window,eI r.policy.grace,eI r.policy.mode,eI r.policy.restock,B6 r.policy.order,B6 r.policy.credit,D6 codes]) (post:=[B6 (G1 r codes),.arr 2 (G1 r codes).length (fun k=>J8 ((Q9 r codes).scopes.getD k default)),.emp]) (I6 3 fun k=>F7 ([].getD k default)) at3 at3 (show 0<1 by omega) hf3 rfl
   refine ⟨_,upd t2 bd ⟨165,19,1,G6 f3 0 (A5O (Q9 r codes) .emp)⟩,.inr (.inr ⟨h1,h2,bd,rfl,.emp,hbd,⟨165,19,1,G6 f3 0 (A5O (Q9 r codes) .emp)⟩,⟨G6 f3 0 (A5O (Q9 r codes) .emp),rfl,A5 ..⟩,?_⟩),(hc1 _).trans ((hc2 _).trans ?_)⟩
   ·have:=C8.write (y':=⟨165,19,1,G6 f3 0 (A5O (Q9 r codes) .emp)⟩) hS3 (A0 ..)
    rw [B8,B8] at this
    exact ROut.start this _ _ _
   ·have:=hc3 [.tuple [.optr 19 bd 0 0,eI 0]]
    rw [B8] at this
    have e:B1 2 J8 (Q9 r codes).scopes=.arr 2 (G1 r codes).length (fun k=>J8 ((Q9 r codes).scopes.getD k default)):=by
     show AV.arr 2 (List.map _ _).length _=_
     rw [List.length_map]
    unfold A5O
    rw [e]
    exact this
end Go.Proofs.YtbajhapmlfbelaaGreat
namespace Go.Proofs.YtbajhapmlfbelaaGreat
open Go Go.Ab
theorem A9j {r:F9} (codes:List E0) (hC:promosC r.promos=true):(G1 r codes).length≤60:=by
 unfold G1
 rw [Q2]
 refine Nat.le_trans (List.length_filter_le ..) ?_
 rw [(W5 _ _).length_eq]
 have:=P3 r.promos codes r.promos.length
 have:=(A2v hC).few
 omega
theorem B9Q {r:F9} (codes:List E0) (hC:promosC r.promos=true) (hi:r.items.length≤100000):B1K (Q9 r codes):=by
 have hl:=A9j codes hC
 have e:(Q9 r codes).scopes.length=(G1 r codes).length:=List.length_map ..
 refine ⟨hi,e.symm,by omega,fun s hs=>?_,Nat.zero_le _,rfl⟩
 obtain ⟨x,hx,rfl⟩:=List.mem_map.1 hs
 have h1:=A5P hx
 have h2:=A0U ((A2v hC).right _ (show D9 r.promos x∈r.promos from B5 h1.2))
 exact ⟨h2.skus,h2.cats⟩
end Go.Proofs.YtbajhapmlfbelaaGreat
namespace Go.Proofs.YtbajhapmlfbelaaGreat
open Go Go.Ab
attribute [local irreducible] upd del
theorem B3J (bd:Nat) (d:A0w) (hl:d.lines.length≤1000) (s t:St) (h:A4a bd d s t):S P 26 [.optr 19 bd 0 0] t fun v t'=>v=B1 3 F7 d.lines∧t'=t:=by
 obtain ⟨ov,f,atd,hf,-,-⟩:=h.at
 refine A7 [] C0 mixed Tryz.func26 (by rfl) rfl rfl rfl ?_;conv=>whnf
 refine E9 atd rfl (by omega) hf ?_;conv=>whnf
 refine B3 (B1Z d.lines (by omega) _) ?_;conv=>whnf
 exact ⟨rfl,rfl⟩
theorem B2h (t:St):S P 26 [.nilp] t fun v t'=>v=.emp∧t'=t:=by
 refine A7 [] C0 mixed Tryz.func26 (by rfl) rfl rfl rfl ?_;conv=>whnf
 exact ⟨rfl,rfl⟩
theorem B5w (i:Int) (x:F5) (t:St):S P 25 [.nilp,eI i,F7 x] t fun v t'=>v=eI 1∧t'=t:=by
 refine A7 [5] C0 mixed Tryz.func25 (by rfl) rfl rfl rfl ?_;conv=>whnf
 exact ⟨rfl,rfl⟩
theorem B3K (t:St):S P 27 [.nilp] t fun v t'=>v=.emp∧t'=t:=by
 refine A7 [] C0 mixed Tryz.func27 (by rfl) rfl rfl rfl ?_;conv=>whnf
 exact ⟨rfl,rfl⟩
theorem B0H (t:St):S P 24 [.nilp] t fun v t'=>v=.agg [.emp,eI 0,eI 0,.emp]∧t'=t:=by
 refine A2E ?_
 refine A7 [] C0 mixed Tryz.func24 (by rfl) rfl rfl rfl ?_;conv=>whnf
 intro b2 hb2;conv=>whnf
 refine J7 (A0 ..) rfl (by omega) rfl (by rfl) ?_;conv=>whnf
 refine E9 (A0 ..) rfl (by omega) (A5 ..) ?_;conv=>whnf
 exact ⟨rfl,((F3.refl t).upd hb2).over hb2⟩
theorem B2i (bd:Nat) (d:A0w) (X:A4v) (e:Int) (hP:∀ u,S P 18 [I8 d.r,D6 d.codes,B1 3 F7 d.lines] u fun v u'=>v=.tuple [X1 X,eI e]∧u'=u) (s t:St) (h:A4a bd d s t) :
  S P 24 [.optr 19 bd 0 0] t fun v t'=>v=X1 X∧t'=t:=by
 obtain ⟨ov,f,atd,hf,-,hO⟩:=h.at
 refine A2E ?_
 refine A8S [] C0 mixed Tryz.func24 (by rfl) rfl rfl rfl ?_;conv=>whnf
 intro b2 hb2
 have h2:bd≠b2:=fun e=>by subst e;rw [atd] at hb2;cases hb2
 conv=>whnf
 refine .inr ⟨[16,17],.qui 0 (.qui 1 (.qui 2 (.qui 3 (.qui 4 (.qui 5 (.qui 6 (.qui 7 (.qui 8 (.qui 9 (.qui 10 (.qui 11 (.qui 12 (.qui 13 (.qui 14 (.qui 15 (.eff 16 [3,7,11,12] (.eff 17 [] (.qui 18 (.done))))))))))))))))))),by kernel_rfl,?_⟩;conv=>whnf
 refine ⟨_,fun s=>s bd=some ⟨165,19,1,f⟩,(A9 h2).trans atd,fun s hs=>E9 hs rfl (by omega) hf ⟨rfl,rfl⟩,?_⟩;conv=>whnf
 refine ⟨_,fun s=>s bd=some ⟨165,19,1,f⟩,(A9 h2).trans atd,fun s hs=>E9 hs rfl (by omega) hf ⟨rfl,rfl⟩,?_⟩;conv=>whnf
 refine ⟨_,fun s=>s bd=some ⟨165,19,1,f⟩,(A9 h2).trans atd,fun s hs=>E9 hs rfl (by omega) hf ⟨rfl,rfl⟩,?_⟩;conv=>whnf
 refine ⟨_,fun _=>True,trivial,fun s _=>D2 (hP s),?_⟩;conv=>whnf
 intro b3 hb3;conv=>whnf
 have h3:bd≠b3:=fun e=>by subst e;rw [A9 h2,atd] at hb3;cases hb3
 have h23:b2≠b3:=fun e=>by subst e;rw [A0] at hb3;cases hb3
 iterate 4 (refine ⟨by first | exact fun _=>trivial | exact fun h=>(A9 h3).trans h,?_⟩;conv=>whnf)
 refine J7 (A0 ..) rfl (by omega) rfl (by rfl) ?_
 rw [B8];conv=>whnf
 refine E9 (A0 ..) rfl (by omega) (A5 ..) ?_;conv=>whnf
 refine J7 ((A9 h23).trans (A0 ..)) rfl (by omega) rfl (by rfl) ?_;conv=>whnf
 refine E9 (A0 ..) rfl (by omega) (A5 ..) ?_;conv=>whnf
 exact ⟨rfl,(((F3.refl t).upd hb2).upd hb3).over hb2⟩
def C8J:Tax:=⟨false,false,0,[]⟩
end Go.Proofs.YtbajhapmlfbelaaGreat
namespace Go.Proofs.YtbajhapmlfbelaaGreat
open Go Go.Ab
theorem B0K (p:B2) (id K:Int):A0I (M8 p id K):=by
 have hs:=(A1V p.scope).2
 have hp:=A3S p.parts
 have ht5:=(A1W p.tiers 5000 (.inl rfl)).2
 have ht6:=(A1W p.tiers 5 (.inr rfl)).2
 refine ⟨?_,?_,?_,?_,?_,?_,?_⟩
 ·have:=X9 (B3R id);show (idN id).size≤_;omega
 ·have:=(A8g p).2;show (A1j p).size≤_;omega
 ·have:=(A9f p).2;show (A2t p).size≤_;omega
 ·show A0J (if K=4∨K=7 then ⟨[],[]⟩ else O3 p.scope)
  split
  ·exact A4B.2
  ·exact hs
 ·show (if K=4 then N4 p.parts else []).length≤_
  split
  ·omega
  ·exact Nat.zero_le _
 ·show ∀ x∈(if K=4 then N4 p.parts else []),_
  split
  ·exact fun x hx=>(hp.2 x hx).2
  ·exact fun x hx=>absurd hx List.not_mem_nil
 ·show (if K=5 then N5 p.tiers 5000 else if K=6 then N5 p.tiers 5 else []).length≤_
  split
  ·omega
  ·split
   ·omega
   ·exact Nat.zero_le _
theorem B4q (l:List U6) (k:Nat) (hk:k<3):B1O (F0 l k):=by
 have hn:=List.all_eq_true.1 B0B k (List.mem_range.2 hk)
 have hz:=X9 hn
 unfold F0
 split
 ·obtain ⟨h1,h2,h3⟩:=A7f (l.getD k default).rates
  generalize Q1 (l.getD k default).rates=R at h1 h2 h3 ⊢
  exact ⟨by show R.length≤_;omega,by show (W4 k).size≤_;omega,fun x hx=>by have:=(h2 x hx).2;show x.cat.size≤_;omega⟩
 ·exact ⟨by show 0≤_;decide,by show (W4 k).size≤_;omega,fun x hx=>absurd hx List.not_mem_nil⟩
theorem B5W (t:Tax):B6I (K4 t):=by
 refine ⟨by show ((List.range 3).map _).length≤_;rw [List.length_map,List.length_range];decide,fun z hz=>?_⟩
 obtain ⟨k,hk,rfl⟩:=List.mem_map.1 hz
 exact B4q _ k (List.mem_range.1 hk)
theorem B2G (r:F9):A0l (U0 r):=by
 have h0:=A2V r.items
 have h2:=(R6 r.policy.order).2
 have h3:=(R6 r.policy.credit).2
 refine ⟨by show (N3 r.items).length≤_;omega,fun x hx=>?_,fun p hp=>?_,B5W r.tax,by show (K0 r.policy.order).length≤_;omega,by show (K0 r.policy.credit).length≤_;omega⟩
 ·have:=A5S hx
  exact ⟨by have:=this.2.1;show x.sku.size≤_;omega,by have:=this.2.2;show x.cat.size≤_;omega⟩
 ·obtain ⟨q,id,K,_,rfl⟩:=A4T hp
  exact B0K q id K
end Go.Proofs.YtbajhapmlfbelaaGreat
