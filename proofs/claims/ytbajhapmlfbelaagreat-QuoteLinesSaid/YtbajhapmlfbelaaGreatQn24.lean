/- Part 24 of the proof: contracts of the functions that the law reaches -/
import Derived.Test.YtbajhapmlfbelaaGreatQn23
set_option maxRecDepth 100000
set_option linter.unusedVariables false
set_option linter.unusedSimpArgs false
namespace Go.Proofs.YtbajhapmlfbelaaGreat
open Go Go.Ab
attribute [local irreducible] upd del
theorem W0 {st:St} {b c:Nat} (h:c≠b):del st b c=st c:=by unfold del;rw [if_neg h]
theorem Z6 (st:St) (b:Nat):del st b b=none:=by unfold del;rw [if_pos rfl]
theorem E2.drop {s t:St} {b:Nat} {y:M6} (h:E2 (upd s b y) t) (hb:s b=none):E2 s t:=fun c x hc=>by
 have hne:c≠b:=fun e=>by subst e;rw [hb] at hc;cases hc
 exact h c x (by rw [A3 hne];exact hc)
structure G0 (R:St→St→Prop):Prop where
 sup:∀ {s t:St},R s t→E2 s t
 begin:∀ {s t:St} {b:Nat} {y:M6},R s t→t b=none→R (upd s b y) (upd t b y)
 grow:∀ {s t:St} {b b':Nat} {y y':M6},R (upd s b y) t→s b=none→(b'=b∨t b'=none)→s b'=none∧R (upd s b' y') (upd (del t b) b' y')
 write:∀ {s t:St} {b:Nat} {y y':M6},R s t→s b=some y→R (upd s b y') (upd t b y')
 forget:∀ {s t:St} {b:Nat} {y:M6},R (upd s b y) t→s b=none→R s (del t b)
 drop:∀ {s t:St} {b:Nat} {y:M6},R (upd s b y) t→s b=none→R s t
theorem T5.drop {st0 st:St} {q b:Nat} {f:Bool} {es:List QE} {y:M6} (h:T5 (upd st0 b y) q f es st) (hb:st0 b=none):T5 st0 q f es st:=by
 obtain ⟨h1,h2,sv,hq,h3⟩:=h
 have hqb:q≠b:=fun e=>by subst e;rw [A0] at h1;cases h1
 refine ⟨by rw [A3 hqb] at h1;exact h1,E2.drop h2 hb,sv,hq,?_⟩
 rcases h3 with h3 | ⟨c,l,n,a1,a2,a3,a4,a5,a6,a7,a8,a9⟩
 ·exact .inl h3
 ·have hcb:c≠b:=fun e=>by subst e;rw [A0] at a2;cases a2
  rw [A3 hcb] at a2
  exact .inr ⟨c,l,n,a1,a2,a3,a4,a5,a6,a7,a8,a9⟩
def S4 (b:Nat) (Q:M6→Prop) (R:St→St→Prop) (s t:St):Prop:=s b=none∧∃ y,Q y∧R (upd s b y) t
theorem X1 {b:Nat} {Q:M6→Prop} {R:St→St→Prop} (hR:G0 R):G0 (S4 b Q R) where
 sup:=fun ⟨h1,y,h2,h3⟩=>E2.drop (hR.sup h3) h1
 begin:=fun {s t c z} ⟨h1,y,h2,h3⟩ hc=>by
  have hbc:b≠c:=fun e=>by subst e;rw [hR.sup h3 b y (A0 ..)] at hc;cases hc
  refine ⟨by rw [A3 hbc];exact h1,y,h2,?_⟩
  rw [L0 hbc.symm];exact hR.begin h3 hc
 grow:=fun {s t c c' z z'} ⟨h1,y,h2,h3⟩ h0 hc=>by
  have hbc:b≠c:=fun e=>by subst e;rw [A0] at h1;cases h1
  rw [A3 hbc] at h1
  have hty:t b=some y:=hR.sup h3 b y (A0 ..)
  have hbc':b≠c':=fun e=>by
   subst e
   rcases hc with e | e
   ·exact hbc e
   ·rw [hty] at e;cases e
  rw [L0 hbc.symm] at h3
  obtain ⟨g1,g2⟩:=hR.grow (y':=z') h3 (by rw [A3 hbc.symm];exact h0) hc
  rw [A3 hbc'.symm] at g1
  exact ⟨g1,by rw [A3 hbc'];exact h1,y,h2,by rw [L0 hbc'.symm];exact g2⟩
 write:=fun {s t c z z'} ⟨h1,y,h2,h3⟩ hc=>by
  have hbc:b≠c:=fun e=>by subst e;rw [h1] at hc;cases hc
  refine ⟨by rw [A3 hbc];exact h1,y,h2,?_⟩
  rw [L0 hbc.symm];exact hR.write h3 (by rw [A3 hbc.symm];exact hc)
 forget:=fun {s t c z} ⟨h1,y,h2,h3⟩ h0=>by
  have hbc:b≠c:=fun e=>by subst e;rw [A0] at h1;cases h1
  rw [A3 hbc] at h1
  rw [L0 hbc.symm] at h3
  exact ⟨h1,y,h2,hR.forget h3 (by rw [A3 hbc.symm];exact h0)⟩
 drop:=fun {s t c z} ⟨h1,y,h2,h3⟩ h0=>by
  have hbc:b≠c:=fun e=>by subst e;rw [A0] at h1;cases h1
  rw [A3 hbc] at h1
  rw [L0 hbc.symm] at h3
  exact ⟨h1,y,h2,hR.drop h3 (by rw [A3 hbc.symm];exact h0)⟩
theorem S4.at {b:Nat} {Q:M6→Prop} {R:St→St→Prop} (hR:G0 R) {s t:St} (h:S4 b Q R s t):∃ y,Q y∧t b=some y:=by
 obtain ⟨h1,y,h2,h3⟩:=h
 exact ⟨y,h2,hR.sup h3 b y (A0 ..)⟩
theorem S4.map {b:Nat} {Q:M6→Prop} {R R':St→St→Prop} {s t t':St} (h:S4 b Q R s t) (hm:∀ s,R s t→R' s t'):S4 b Q R' s t':=by
 obtain ⟨h1,y,h2,h3⟩:=h
 exact ⟨h1,y,h2,hm _ h3⟩
theorem S4.set {b:Nat} {Q Q':M6→Prop} {R:St→St→Prop} (hR:G0 R) {s t:St} (h:S4 b Q R s t) {y':M6} (hy:Q' y'):S4 b Q' R s (upd t b y'):=by
 obtain ⟨h1,y,h2,h3⟩:=h
 have:=hR.write (y':=y') h3 (A0 ..)
 rw [G7] at this
 exact ⟨h1,y',hy,this⟩
def T6 (q:Nat) (bo:Option Nat) (c:Nat):Prop:=c=q∨bo=some c
structure QF (q:Nat) (bo:Option Nat) (f:Bool) (es:List QE) (st:St):Prop where
 has:∃ sv,A0j st q sv∧((es=[]∧sv=.emp∧bo=none)∨∃ b l n,bo=some b∧q≠b∧sv=.own 2 b 0 n∧n≤l.length∧l.length<2305843009213∧A0W l n∧V4 st b l∧(l.take n).Perm es∧(f=true→n=l.length))
theorem QF.frame {q:Nat} {bo:Option Nat} {f:Bool} {es:List QE} {st st':St} (h:QF q bo f es st) (hf:∀ c,T6 q bo c→st' c=st c):QF q bo f es st':=by
 obtain ⟨sv,⟨fq,hqs,hq0⟩,h3⟩:=h.has
 refine ⟨sv,⟨fq,by rw [hf q (.inl rfl)];exact hqs,hq0⟩,?_⟩
 rcases h3 with h3 | ⟨b,l,n,a0,a1,a3,a4,a5,a6,⟨fe,hes,hef⟩,a8,a9⟩
 ·exact .inl h3
 ·exact .inr ⟨b,l,n,a0,a1,a3,a4,a5,a6,⟨fe,by rw [hf b (.inr a0)];exact hes,hef⟩,a8,a9⟩
theorem QF.some {q:Nat} {bo:Option Nat} {f:Bool} {es:List QE} {st:St} (h:QF q bo f es st) {c:Nat} (hc:T6 q bo c):∃ x,st c=.some x:=by
 obtain ⟨sv,⟨fq,hqs,hq0⟩,h3⟩:=h.has
 rcases hc with rfl | hc
 ·exact ⟨_,hqs⟩
 ·rcases h3 with ⟨_,_,h4⟩ | ⟨b,l,n,a0,a1,a3,a4,a5,a6,⟨fe,hes,hef⟩,a8,a9⟩
  ·rw [h4] at hc;cases hc
  ·rw [a0] at hc;cases hc;exact ⟨_,hes⟩
theorem T5.foot {s t:St} {q:Nat} {f:Bool} {es:List QE} (h:T5 s q f es t):∃ bo,QF q bo f es t∧∀ c,T6 q bo c→s c=none:=by
 obtain ⟨h1,h2,sv,hq,h3⟩:=h
 rcases h3 with ⟨h3,h4⟩ | ⟨b,l,n,a1,a2,a3,a4,a5,a6,a7,a8,a9⟩
 ·exact ⟨none,⟨sv,hq,.inl ⟨h3,h4,rfl⟩⟩,fun c hc=>by
   rcases hc with rfl | hc
   ·exact h1
   ·cases hc⟩
 ·exact ⟨.some b,⟨sv,hq,.inr ⟨b,l,n,rfl,a1,a3,a4,a5,a6,a7,a8,a9⟩⟩,fun c hc=>by
   rcases hc with rfl | hc
   ·exact h1
   ·cases hc;exact a2⟩
theorem QF.qst {s t:St} {q:Nat} {bo:Option Nat} {f:Bool} {es:List QE} (h:QF q bo f es t) (hs:E2 s t) (hn:∀ c,T6 q bo c→s c=none):T5 s q f es t:=by
 obtain ⟨sv,hq,h3⟩:=h.has
 refine ⟨hn q (.inl rfl),hs,sv,hq,?_⟩
 rcases h3 with ⟨h3,h4,_⟩ | ⟨b,l,n,a0,a1,a3,a4,a5,a6,a7,a8,a9⟩
 ·exact .inl ⟨h3,h4⟩
 ·exact .inr ⟨b,l,n,a1,hn b (.inr a0),a3,a4,a5,a6,a7,a8,a9⟩
structure QsA (s:St) (n:Nat) (q:Nat→Nat) (bo:Nat→Option Nat) (f:Nat→Bool) (es:Nat→List QE) (t:St):Prop where
 sup:E2 s t
 new:∀ i,i<n→∀ c,T6 (q i) (bo i) c→s c=none
 has:∀ i,i<n→QF (q i) (bo i) (f i) (es i) t
 dis:∀ i j,i<n→j<n→i≠j→∀ c,T6 (q i) (bo i) c→¬ T6 (q j) (bo j) c
def Qs (n:Nat) (q:Nat→Nat) (es:Nat→List QE) (s t:St):Prop:=∃ bo f,QsA s n q bo f es t
theorem QsA.off {s t:St} {n:Nat} {q:Nat→Nat} {bo:Nat→Option Nat} {f:Nat→Bool} {es:Nat→List QE} (h:QsA s n q bo f es t) {b:Nat} {y:M6} (hb:s b=some y) {i:Nat} (hi:i<n) {c:Nat} (hc:T6 (q i) (bo i) c):c≠b:=fun e=>by
 subst e;rw [h.new i hi c hc] at hb;cases hb
theorem V9 (n:Nat) (q:Nat→Nat) (es:Nat→List QE):G0 (Qs n q es) where
 sup:=fun ⟨bo,f,h⟩=>h.sup
 begin:=fun {s t b y} ⟨bo,f,h⟩ hb=>by
  have hne:∀ i,i<n→∀ c,T6 (q i) (bo i) c→c≠b:=fun i hi c hc e=>by
   subst e
   obtain ⟨x,hx⟩:=(h.has i hi).some hc
   rw [hx] at hb;cases hb
  exact ⟨bo,f,fun c x hc=>by
    by_cases e:c=b
    ·subst e;rw [A0] at hc ⊢;exact hc
    ·rw [A3 e] at hc ⊢;exact h.sup c x hc,
   fun i hi c hc=>by rw [A3 (hne i hi c hc)];exact h.new i hi c hc,
   fun i hi=>(h.has i hi).frame fun c hc=>A3 (hne i hi c hc),h.dis⟩
 grow:=fun {s t b b' y y'} ⟨bo,f,h⟩ h0 hb=>by
  have hne:∀ i,i<n→∀ c,T6 (q i) (bo i) c→c≠b:=fun i hi c hc=>h.off (A0 ..) hi hc
  have hne':∀ i,i<n→∀ c,T6 (q i) (bo i) c→c≠b':=fun i hi c hc e=>by
   subst e
   rcases hb with e | e
   ·exact hne i hi c hc e
   ·obtain ⟨x,hx⟩:=(h.has i hi).some hc
    rw [hx] at e;cases e
  have hsub:∀ c x,s c=some x→c≠b∧t c=some x:=fun c x hc=>by
   have hne:c≠b:=fun e=>by subst e;rw [h0] at hc;cases hc
   exact ⟨hne,h.sup c x (by rw [A3 hne];exact hc)⟩
  have hb':s b'=none:=by
   rcases hb with e | e
   ·rw [e];exact h0
   ·cases hx:s b' with
    | none=>rfl
    | some x=>rw [(hsub _ _ hx).2] at e;cases e
  refine ⟨hb',bo,f,fun c x hc=>?_,fun i hi c hc=>?_,fun i hi=>(h.has i hi).frame fun c hc=>?_,h.dis⟩
  ·by_cases e:c=b'
   ·subst e;rw [A0] at hc ⊢;exact hc
   ·rw [A3 e] at hc ⊢
    rw [W0 (hsub c x hc).1];exact (hsub c x hc).2
  ·have:=h.new i hi c hc
   rw [A3 (hne i hi c hc)] at this
   rw [A3 (hne' i hi c hc)];exact this
  ·rw [A3 (hne' i hi c hc),W0 (hne i hi c hc)]
 write:=fun {s t b y y'} ⟨bo,f,h⟩ hb=>by
  have hne:∀ i,i<n→∀ c,T6 (q i) (bo i) c→c≠b:=fun i hi c hc=>h.off hb hi hc
  exact ⟨bo,f,E2.write (y:=y) h.sup,fun i hi c hc=>by rw [A3 (hne i hi c hc)];exact h.new i hi c hc,
   fun i hi=>(h.has i hi).frame fun c hc=>A3 (hne i hi c hc),h.dis⟩
 forget:=fun {s t b y} ⟨bo,f,h⟩ h0=>by
  have hne:∀ i,i<n→∀ c,T6 (q i) (bo i) c→c≠b:=fun i hi c hc=>h.off (A0 ..) hi hc
  refine ⟨bo,f,fun c x hc=>?_,fun i hi c hc=>?_,fun i hi=>(h.has i hi).frame fun c hc=>?_,h.dis⟩
  ·have e:c≠b:=fun e=>by subst e;rw [h0] at hc;cases hc
   rw [W0 e];exact h.sup c x (by rw [A3 e];exact hc)
  ·have:=h.new i hi c hc
   rw [A3 (hne i hi c hc)] at this;exact this
  ·exact W0 (hne i hi c hc)
 drop:=fun {s t b y} ⟨bo,f,h⟩ h0=>by
  have hne:∀ i,i<n→∀ c,T6 (q i) (bo i) c→c≠b:=fun i hi c hc=>h.off (A0 ..) hi hc
  refine ⟨bo,f,E2.drop h.sup h0,fun i hi c hc=>?_,h.has,h.dis⟩
  have:=h.new i hi c hc
  rw [A3 (hne i hi c hc)] at this;exact this
theorem Qs.nil {s t:St} (h:E2 s t) {q:Nat→Nat} {es:Nat→List QE}:Qs 0 q es s t:=⟨fun _=>none,fun _=>true,h,fun i hi=>by omega,fun i hi=>by omega,fun i j hi=>by omega⟩
theorem Qs.congr {n:Nat} {q q':Nat→Nat} {es es':Nat→List QE} {s t:St} (h:Qs n q es s t) (hq:∀ i,i<n→q' i=q i) (he:∀ i,i<n→es' i=es i):Qs n q' es' s t:=by
 obtain ⟨bo,f,h⟩:=h
 exact ⟨bo,f,h.sup,fun i hi=>by rw [hq i hi];exact h.new i hi,fun i hi=>by rw [hq i hi,he i hi];exact h.has i hi,fun i j hi hj=>by rw [hq i hi,hq j hj];exact h.dis i j hi hj⟩
def N9 {α : Type} (f:Nat→α) (i:Nat) (v : α) (k:Nat) : α:=if k=i then v else f k
theorem C5 {α : Type} (f:Nat→α) (i:Nat) (v : α):N9 f i v i=v:=by simp [N9]
theorem F3 {α : Type} {f:Nat→α} {i k:Nat} {v : α} (h:k≠i):N9 f i v k=f k:=by simp [N9,h]
theorem Qs.add {n:Nat} {q:Nat→Nat} {es:Nat→List QE} {s t t':St} {q':Nat} {f':Bool} {es':List QE} (h:Qs n q es s t) (h':T5 t q' f' es' t'):Qs (n+1) (N9 q n q') (N9 es n es') s t':=by
 obtain ⟨bo,f,h⟩:=h
 obtain ⟨bo',g1,g2⟩:=h'.foot
 have hne:∀ i,i<n→∀ c,T6 (q i) (bo i) c→¬ T6 q' bo' c:=fun i hi c hc hc'=>by
  obtain ⟨x,hx⟩:=(h.has i hi).some hc
  rw [g2 c hc'] at hx;cases hx
 refine ⟨N9 bo n bo',N9 f n f',h.sup.trans h'.sup,fun i hi c hc=>?_,fun i hi=>?_,fun i j hi hj hij c hc=>?_⟩
 ·by_cases e:i=n
  ·subst e;rw [C5,C5] at hc;exact h.sup.none (g2 c hc)
  ·rw [F3 e,F3 e] at hc;exact h.new i (by omega) c hc
 ·by_cases e:i=n
  ·subst e;rw [C5,C5,C5,C5];exact g1
  ·rw [F3 e,F3 e,F3 e,F3 e]
   refine (h.has i (by omega)).frame fun c hc=>?_
   obtain ⟨x,hx⟩:=(h.has i (by omega)).some hc
   rw [hx,h'.sup c x hx]
 ·by_cases e:i=n
  ·subst e
   rw [C5,C5] at hc
   rw [F3 hij.symm,F3 hij.symm]
   exact fun hc'=>hne j (by omega) c hc' hc
  ·rw [F3 e,F3 e] at hc
   by_cases e2:j=n
   ·subst e2;rw [C5,C5];exact hne i (by omega) c hc
   ·rw [F3 e2,F3 e2];exact h.dis i j (by omega) (by omega) hij c hc
theorem Qs.turn {n:Nat} {q:Nat→Nat} {es:Nat→List QE} {s t:St} (h:Qs n q es s t) {k:Nat} (hk:k<n) :
  ∃ s1 f,E2 s s1∧T5 s1 (q k) f (es k) t∧∀ f' es' t',T5 s1 (q k) f' es' t'→Qs n q (N9 es k es') s t':=by
 obtain ⟨bo,f,h⟩:=h
 have hdec:∀ c,Decidable (T6 (q k) (bo k) c):=fun c=>inferInstanceAs (Decidable (_∨_))
 let s1:St:=fun c=>match hdec c with | isTrue _=>none | isFalse _=>t c
 have s1t:∀ c,T6 (q k) (bo k) c→s1 c=none:=fun c hc=>by
  show (match hdec c with | isTrue _=>none | isFalse _=>t c)=none
  cases hdec c with
  | isTrue _=>rfl
  | isFalse hn=>exact absurd hc hn
 have s1f:∀ c,¬ T6 (q k) (bo k) c→s1 c=t c:=fun c hc=>by
  show (match hdec c with | isTrue _=>none | isFalse _=>t c)=t c
  cases hdec c with
  | isTrue hn=>exact absurd hn hc
  | isFalse _=>rfl
 have s1s:E2 s1 t:=fun c x hc=>by
  by_cases e:T6 (q k) (bo k) c
  ·rw [s1t c e] at hc;cases hc
  ·rw [s1f c e] at hc;exact hc
 refine ⟨s1,f k,fun c x hc=>?_,(h.has k hk).qst s1s s1t,fun f' es' t' hq=>?_⟩
 ·have:¬ T6 (q k) (bo k) c:=fun e=>by rw [h.new k hk c e] at hc;cases hc
  rw [s1f c this];exact h.sup c x hc
 obtain ⟨bo',g1,g2⟩:=hq.foot
 have hfr:∀ c x,¬ T6 (q k) (bo k) c→t c=some x→t' c=some x:=fun c x hc hx=>hq.sup c x (by rw [s1f c hc];exact hx)
 have hne:∀ i,i<n→i≠k→∀ c,T6 (q i) (bo i) c→¬ T6 (q k) bo' c:=fun i hi hik c hc hc'=>by
  obtain ⟨x,hx⟩:=(h.has i hi).some hc
  have:=g2 c hc'
  rw [s1f c (h.dis i k hi hk hik c hc),hx] at this;cases this
 refine ⟨N9 bo k bo',N9 f k f',fun c x hc=>?_,fun i hi c hc=>?_,fun i hi=>?_,fun i j hi hj hij c hc=>?_⟩
 ·exact hfr c x (fun e=>by rw [h.new k hk c e] at hc;cases hc) (h.sup c x hc)
 ·by_cases e:i=k
  ·subst e
   rw [C5] at hc
   by_cases e2:T6 (q i) (bo i) c
   ·exact h.new i hi c e2
   ·have:=g2 c hc
    rw [s1f c e2] at this;exact h.sup.none this
  ·rw [F3 e] at hc;exact h.new i hi c hc
 ·by_cases e:i=k
  ·subst e;rw [C5,C5,C5];exact g1
  ·rw [F3 e,F3 e,F3 e]
   refine (h.has i hi).frame fun c hc=>?_
   obtain ⟨x,hx⟩:=(h.has i hi).some hc
   rw [hx,hfr c x (h.dis i k hi hk e c hc) hx]
 ·by_cases e:i=k
  ·subst e
   rw [C5] at hc
   rw [F3 hij.symm]
   exact fun hc'=>hne j hj hij.symm c hc' hc
  ·rw [F3 e] at hc
   by_cases e2:j=k
   ·subst e2;rw [C5];exact hne i hi hij c hc
   ·rw [F3 e2];exact h.dis i j hi hj hij c hc
theorem Qs.pop_S {n:Nat} {q:Nat→Nat} {es:Nat→List QE} {s t:St} (h:Qs n q es s t) {k:Nat} (hk:k<n) {x:QE} {rest:List QE} (he:es k=x::rest) (htop:∀ y∈rest,D6 y x=false) :
  S P 149 [.optr 1 (q k) 0 0] t fun v t'=>v=.tuple [eI x.1,eI x.2,.bool true]∧Qs n q (N9 es k rest) s t':=by
 obtain ⟨s1,f,_,hq,hb⟩:=h.turn hk
 rw [he] at hq
 exact (A5x s1 (q k) f x rest t hq htop).mono fun v t' hv=>⟨hv.1,hb _ _ _ hv.2⟩
theorem Qs.pop0_S {n:Nat} {q:Nat→Nat} {es:Nat→List QE} {s t:St} (h:Qs n q es s t) {k:Nat} (hk:k<n) (he:es k=[]) :
  S P 149 [.optr 1 (q k) 0 0] t fun v t'=>v=.tuple [eI 0,eI 0,.bool false]∧t'=t:=by
 obtain ⟨s1,f,_,hq,hb⟩:=h.turn hk
 rw [he] at hq
 exact B5G s1 (q k) f t hq
def ROut (R:St→St→Prop) (ty e:Nat) (fo:Nat→AV) (n:Nat) (s:St) (sv:AV) (t:St):Prop:=∃ s0,H6 ty e fo s n sv s0∧R s0 t
section
variable {R:St→St→Prop} {ty e n:Nat} {fo:Nat→AV} {s t:St} {sv:AV}
theorem ROut.start (h:R s t) (ty e:Nat) (fo:Nat→AV):ROut R ty e fo 0 s .emp t:=⟨s,H6.start _ _ _ _,h⟩
theorem ROut.map {R':St→St→Prop} {t':St} (h:ROut R ty e fo n s sv t) (hm:∀ s,R s t→R' s t'):ROut R' ty e fo n s sv t':=by
 obtain ⟨s0,h1,h2⟩:=h
 exact ⟨s0,h1,hm _ h2⟩
theorem ROut.congr {fo':Nat→AV} (h:ROut R ty e fo n s sv t) (hf:∀ k,k<n→fo k=fo' k):ROut R ty e fo' n s sv t:=by
 obtain ⟨s0,h1,h2⟩:=h
 exact ⟨s0,H6.congr h1 hf,h2⟩
theorem ROut.head (h:ROut R ty e fo n s sv t):sv=.emp∨∃ b,sv=.own e b 0 n:=by
 obtain ⟨s0,⟨_,h1,_⟩ | ⟨_,b,_,_,h1,_⟩,h2⟩:=h
 ·exact .inl h1
 ·exact .inr ⟨b,h1⟩
theorem ROut.apps {T:C9} {tt:TypeId} {x:AV} {k:KK} {r q:B4} {el m:Nat} {f g:Nat→AV} (hR:G0 R) (hr:T tt=some r) (hd:r.desc=.slice el) (hq:T el=some q)
  (hz:(Nat.blt 0 q.size&&Nat.blt 0 q.bytes&&Nat.beq q.zero.cells.size q.size)=true) (hs:T2 q.size t x=some (m,g)) (hg:∀ i,i<m→g i=f (n+i)) (hb:(n+m) * q.bytes≤140737488355328)
  (hc:ROut R el q.size f n s sv t) (hk:∀ sv' t',ROut R el q.size f (n+m) s sv' t'→k sv' t'):A3N T tt sv x t k:=by
 obtain ⟨s0,hc,h⟩:=hc
 rcases hc with ⟨rfl,rfl,rfl⟩ | ⟨h0,bo,y,h1,rfl,rfl,h4⟩
 ·refine apE hr hd hq hz hs (by simpa using hb) (fun h0=>hk _ _ ⟨s0,.inl ⟨by omega,rfl,rfl⟩,h⟩) (fun hm b hb=>?_)
  refine hk _ _ ⟨_,?_,hR.begin (y:=⟨el,q.size,m,g⟩) h hb⟩
  rw [Nat.zero_add]
  exact .inr ⟨hm,b,g,(hR.sup h).none hb,rfl,rfl,fun k hk=>by have:=hg k hk;rwa [Nat.zero_add] at this⟩
 ·have hby:t bo=some ⟨el,q.size,n,y⟩:=hR.sup h bo _ (A0 ..)
  refine apO hr hd hq hz hs hby rfl rfl rfl hb (fun h0'=>hk _ _ ?_) (fun _ b' hb'=>?_)
  ·subst h0';exact ⟨_,.inr ⟨h0,bo,y,h1,rfl,rfl,h4⟩,h⟩
  obtain ⟨hb0,hn⟩:=hR.grow (y':=⟨el,q.size,n+m,fun i=>if i<n then y i else g (i - n)⟩) h h1 hb'
  refine hk _ _ ⟨_,.inr ⟨by omega,b',_,hb0,rfl,rfl,fun k hk=>?_⟩,hn⟩
  by_cases hkn:k<n
  ·simp only [hkn,if_true];exact h4 k hkn
  ·simp only [hkn,if_false]
   rw [hg (k - n) (by omega)];congr 1;omega
theorem ROut.app {T:C9} {tt:TypeId} {x:AV} {k:KK} {r q:B4} {el:Nat} {f g:Nat→AV} (hR:G0 R) (hr:T tt=some r) (hd:r.desc=.slice el) (hq:T el=some q)
  (hz:(Nat.blt 0 q.size&&Nat.blt 0 q.bytes&&Nat.beq q.zero.cells.size q.size)=true) (hs:T2 q.size t x=some (1,g)) (hg:g 0=f n) (hb:(n+1) * q.bytes≤140737488355328)
  (hc:ROut R el q.size f n s sv t) (hk:∀ sv' t',ROut R el q.size f (n+1) s sv' t'→k sv' t'):A3N T tt sv x t k :=
 ROut.apps hR hr hd hq hz hs (fun i hi=>by
  have:i=0:=by omega
  subst this;exact hg) hb hc hk
theorem ROut.write (hR:G0 R) {b:Nat} {y y':M6} (h:ROut R ty e fo n s sv t) (hb:s b=some y):ROut R ty e fo n (upd s b y') sv (upd t b y'):=by
 obtain ⟨s0,hc,h⟩:=h
 exact ⟨_,H6.write hc hb,hR.write h (hc.sup b y hb)⟩
theorem ROut.shift (hR:G0 R) (h:ROut R ty e fo n s sv t):∃ t',A4 [sv] t [.arr e n fo] t'∧R s t':=by
 obtain ⟨s0,hc,h⟩:=h
 rcases hc with ⟨rfl,rfl,rfl⟩ | ⟨h0,bo,g,h1,rfl,rfl,h3⟩
 ·exact ⟨t,G5 e fo,h⟩
 ·exact ⟨del t bo,M1 (hR.sup h bo _ (A0 ..)) rfl (Nat.le_refl _) h3,hR.forget h h1⟩
theorem ROut.dropped (hR:G0 R) (h:ROut R ty e fo n s sv t):R s t:=by
 obtain ⟨s0,hc,h⟩:=h
 rcases hc with ⟨rfl,rfl,rfl⟩ | ⟨h0,bo,g,h1,rfl,rfl,h3⟩
 ·exact h
 ·exact hR.drop h h1
theorem ROut.sup (hR:G0 R) (h:ROut R ty e fo n s sv t):E2 s t:=hR.sup (h.dropped hR)
end
structure MkD where
 p:A8
 us:List A6
 bm:Nat
 bu:Nat
 br:Nat
 n:Nat
 q:Nat→Nat
def IsM (d:MkD) (len:Nat) (y:M6):Prop:=∃ f,y=⟨349,18,1,f⟩∧f 0=.agg (R1 d.p++[B9 d.us,.own 1 d.bu 0 len,.own 1 d.br 0 d.n])
def B2K (used:List Bool) (y:M6):Prop:=∃ g,y=⟨4,1,used.length,g⟩∧∀ k,k<used.length→g k=eB (used.getD k default)
def A7a (d:MkD) (y:M6):Prop:=∃ g,y=⟨216,1,d.n,g⟩∧∀ k,k<d.n→g k=.optr 1 (d.q k) 0 0
def MkR (d:MkD) (used:List Bool) (es:Nat→List QE):St→St→Prop:=S4 d.bm (IsM d used.length) (S4 d.bu (B2K used) (S4 d.br (A7a d) (Qs d.n d.q es)))
theorem B0y (d:MkD) (used:List Bool) (es:Nat→List QE):G0 (MkR d used es):=X1 (X1 (X1 (V9 _ _ _)))
theorem MkR.facts {d:MkD} {used:List Bool} {es:Nat→List QE} {s t:St} (h:MkR d used es s t) :
  (∃ f,t d.bm=some ⟨349,18,1,f⟩∧f 0=.agg (R1 d.p++[B9 d.us,.own 1 d.bu 0 used.length,.own 1 d.br 0 d.n])) ∧
  (∃ g,t d.bu=some ⟨4,1,used.length,g⟩∧∀ k,k<used.length→g k=eB (used.getD k default)) ∧
  (∃ g,t d.br=some ⟨216,1,d.n,g⟩∧∀ k,k<d.n→g k=.optr 1 (d.q k) 0 0):=by
 have b1:=V9 d.n d.q es
 have b2:G0 (S4 d.br (A7a d) (Qs d.n d.q es)):=X1 b1
 have b3:G0 (S4 d.bu (B2K used) (S4 d.br (A7a d) (Qs d.n d.q es))):=X1 b2
 obtain ⟨y1,⟨f,rfl,hf⟩,h1⟩:=S4.at b3 h
 obtain ⟨_,_,_,h⟩:=h
 obtain ⟨y2,⟨g,rfl,hg⟩,h2⟩:=S4.at b2 h
 obtain ⟨_,_,_,h⟩:=h
 obtain ⟨y3,⟨k,rfl,hk⟩,h3⟩:=S4.at b1 h
 exact ⟨⟨f,h1,hf⟩,⟨g,h2,hg⟩,⟨k,h3,hk⟩⟩
theorem MkR.pop_S {d:MkD} {used:List Bool} {es:Nat→List QE} {s t:St} (h:MkR d used es s t) {k:Nat} (hk:k<d.n) {x:QE} {rest:List QE} (he:es k=x::rest) (htop:∀ y∈rest,D6 y x=false) :
  S P 149 [.optr 1 (d.q k) 0 0] t fun v t'=>v=.tuple [eI x.1,eI x.2,.bool true]∧MkR d used (N9 es k rest) s t':=by
 obtain ⟨h1,y1,e1,h2,y2,e2,h3,y3,e3,hq⟩:=h
 exact (hq.pop_S hk he htop).mono fun v t' hv=>⟨hv.1,h1,y1,e1,h2,y2,e2,h3,y3,e3,hv.2⟩
theorem MkR.pop0_S {d:MkD} {used:List Bool} {es:Nat→List QE} {s t:St} (h:MkR d used es s t) {k:Nat} (hk:k<d.n) (he:es k=[]) :
  S P 149 [.optr 1 (d.q k) 0 0] t fun v t'=>v=.tuple [eI 0,eI 0,.bool false]∧t'=t:=by
 obtain ⟨h1,y1,e1,h2,y2,e2,h3,y3,e3,hq⟩:=h
 exact hq.pop0_S hk he
theorem MkR.use {d:MkD} {used:List Bool} {es:Nat→List QE} {s t:St} (h:MkR d used es s t) {i:Nat} (hi:i<used.length) {g:Nat→AV} (hb:t d.bu=some ⟨4,1,used.length,g⟩) (hg:∀ k,k<used.length→g k=eB (used.getD k default)) :
  MkR d (used.set i true) es s (upd t d.bu ⟨4,1,used.length,L4 g i (eB true)⟩):=by
 have b1:=V9 d.n d.q es
 have b2:G0 (S4 d.br (A7a d) (Qs d.n d.q es)):=X1 b1
 unfold MkR at h ⊢
 rw [List.length_set]
 refine h.map fun s h=>S4.set b2 h ⟨L4 g i (eB true),by rw [List.length_set],fun k hk=>?_⟩
 rw [List.length_set] at hk
 by_cases e:k=i
 ·subst e;rw [B3];simp [hi]
 ·rw [J9 e,hg k hk]
  congr 1
  simp only [List.getD_eq_getElem?_getD]
  rw [List.getElem?_set_ne (fun e'=>e e'.symm)]
def H8 (used:List Bool):List QE→Option Int×List QE
 | []=>(none,[])
 | e::es=>if used.getD e.2.toNat default=true then H8 used es else (some e.2,es)
def C2L (used:List Bool):Option Int→List Bool
 | none=>used
 | some i=>used.set i.toNat true
def B9P:Option Int→AV
 | none=>.tuple [eI 0,eB false]
 | some i=>.tuple [eI i,eB true]
theorem A9F {α : Type} (f:Nat→α) (i:Nat) (u v : α):N9 (N9 f i u) i v=N9 f i v:=by
 funext k;unfold N9;split<;>rfl
theorem B1H {α : Type} (f:Nat→α) (i:Nat):N9 f i (f i)=f:=by
 funext k;unfold N9;split
 ·rename_i e;rw [e]
 ·rfl
theorem B7F (d:MkD) (used:List Bool) (es:Nat→List QE) (s t:St) (h:MkR d used es s t) (k:Nat) (hk:k<d.n) (hr:∀ e∈es k,0≤e.2∧e.2.toNat<used.length) (hs:(es k).Pairwise fun a b=>D6 b a=false) :
  S P 335 [.optr 18 d.bm 0 0,eI k] t fun v t'=>v=B9P (H8 used (es k)).1∧MkR d (C2L used (H8 used (es k)).1) (N9 es k (H8 used (es k)).2) s t':=by
 refine E3 [] Tryz.func335 ?_
 refine ⟨[0,1],fun m vs t'=>∃ l:List QE,m=l.length∧vs=[.optr 18 d.bm 0 0,eI k]∧H8 used l=H8 used (es k)∧(∀ e∈l,0≤e.2∧e.2.toNat<used.length)∧(l.Pairwise fun a b=>D6 b a=false)∧MkR d used (N9 es k l) s t',?_,?_⟩
 ·conv=>whnf
  exact ⟨_,es k,rfl,rfl,rfl,hr,hs,by rw [B1H];exact h⟩
 ·clear h hr hs
  rintro m vs t' ⟨l,rfl,rfl,hF,hr,hs,h⟩
  rw [←hF]
  obtain ⟨⟨fm,hm,hm0⟩,⟨fu,hu,huf⟩,⟨fr,hb,hbf⟩⟩:=h.facts
  conv=>whnf
  refine J7 hm hm0 ?_
  refine G9 ?_
  refine ldV hb rfl (by omega) (v:=.optr 1 (d.q k) 0 0) (by rw [show 0+(k:Int).toNat=k by omega];exact hbf k hk) ?_;conv=>whnf
  cases l with
  | nil =>
   refine H9 (h.pop0_S hk (C5 ..)) ?_
   exact ⟨rfl,h⟩
  | cons x l =>
   rw [List.pairwise_cons] at hs
   refine call (h.pop_S hk (C5 ..) hs.1) (fun v t2 hv=>?_)
   obtain ⟨rfl,h'⟩:=hv
   rw [A9F] at h'
   obtain ⟨⟨fm',hm',hm0'⟩,⟨fu',hu',huf'⟩,_⟩:=h'.facts
   have hx:=hr x (List.mem_cons_self ..)
   have hux:fu' (0+x.2.toNat)=eB (used.getD x.2.toNat default):=by rw [Nat.zero_add];exact huf' _ hx.2
   conv=>whnf
   refine J7 hm' hm0' ?_
   refine G9 ?_
   refine J7 hu' hux ?_
   cases hx1:used.getD x.2.toNat default with
   | true =>
    conv=>whnf
    refine H4 ?_
    refine ⟨l.length,Nat.lt_succ_self _,l,rfl,rfl,?_,fun e he=>hr e (List.mem_cons_of_mem _ he),hs.2,h'⟩
    show _=if used.getD x.2.toNat default=true then H8 used l else (some x.2,l)
    rw [hx1,if_pos rfl]
   | false =>
    have hT:H8 used (x::l)=(some x.2,l):=by
     show (if used.getD x.2.toNat default=true then H8 used l else (some x.2,l))=_
     rw [hx1,if_neg (by simp)]
    rw [hT];conv=>whnf
    refine J7 hm' hm0' ?_
    refine G9 ?_
    refine stW hu' hux ?_
    refine ⟨rfl,?_⟩
    rw [Nat.zero_add]
    exact h'.use hx.2 hu' huf'
end Go.Proofs.YtbajhapmlfbelaaGreat
namespace Go.Proofs.YtbajhapmlfbelaaGreat
open Go Go.Ab Go.Proofs Go.Sort
attribute [local irreducible] upd del
def C4 (l:List Int):List Int:=l.mergeSort fun x y=>decide (x≤y)
theorem A0E (l:List Int):(C4 l).Perm l:=List.mergeSort_perm ..
theorem M2 (l:List Int):(C4 l).length=l.length:=(A0E l).length_eq
def A5J (l:List Int):M6:=⟨3,1,l.length,fun k=>eI (gI (C4 l) k)⟩
theorem B4j {st:St} {w:World} {b n:Nat} {l:List Int} {os:Array Obj} (hb:A0U st b l) (hS:D0 st w) :
  M7 st w (upd st b (A5J l)) (grow (putRow (Value.int .i64) (Sort.ahead w n) b 0 (C4 l).toArray) os)∧D0 (upd st b (A5J l)) (grow (putRow (Value.int .i64) (Sort.ahead w n) b 0 (C4 l).toArray) os):=by
 obtain ⟨f,hst,hf⟩:=hb
 obtain ⟨cs,hok⟩:=hS b _ hst
 have hbl:b<w.heap.size:=(Array.getElem?_eq_some_iff.1 hok.heap).1
 have hsz:l.length * 1≤cs.size:=hok.size
 have hheap:∀ c,c<w.heap.size→(grow (putRow (Value.int .i64) (Sort.ahead w n) b 0 (C4 l).toArray) os).heap[c]?=if b=c then some (.cells (putCells (Value.int .i64) 0 (C4 l).toArray cs) 3 (0,0)) else w.heap[c]?:=fun c hc=>by
  show ((w.heap.modify b (onCells (putCells (Value.int .i64) 0 (C4 l).toArray)))++os)[c]?=_
  rw [Array.getElem?_append_left (by simpa using hc),Array.getElem?_modify]
  split
  ·rename_i e;subst e;rw [hok.heap];rfl
  ·rfl
 have hev:M7 st w (upd st b (A5J l)) (grow (putRow (Value.int .i64) (Sort.ahead w n) b 0 (C4 l).toArray) os):=by
  refine ⟨rfl,rfl,rfl,?_,fun c hc hs=>?_,fun c=>?_⟩
  ·show w.heap.size≤((w.heap.modify b _)++os).size
   simp
  ·have hne:b≠c:=fun e=>by subst e;rw [hst] at hs;cases hs
   rw [hheap c hc,if_neg hne]
   exact ⟨rfl,by rw [A3 hne.symm];exact hs⟩
  ·by_cases hc:c<w.heap.size
   ·unfold P3
    rw [hheap c hc]
    by_cases e:b=c
    ·subst e
     rw [hok.heap,if_pos rfl]
     simp [putCells]
    ·rw [if_neg e];exact Nat.le_refl _
   ·unfold P3
    rw [Array.getElem?_eq_none (by omega)]
    exact Nat.zero_le _
 refine ⟨hev,fun c x hx=>?_⟩
 by_cases e:c=b
 ·subst e
  rw [A0] at hx
  cases hx
  refine ⟨putCells (Value.int .i64) 0 (C4 l).toArray cs,?_,?_,fun i hi=>rfl,fun i hi=>rfl,fun i j y hi hy=>?_⟩
  ·rw [hheap c hbl,if_pos rfl];rfl
  ·show l.length * 1≤_
   simpa [putCells] using hsz
  ·have hi':i<l.length:=hi
   cases j with
   | succ j=>simp [A5J,cellsOf] at hy
   | zero =>
    have hy':y=eI (gI (C4 l) i):=by simpa [A5J,cellsOf] using hy.symm
    subst hy'
    refine ⟨.int .i64 (gI (C4 l) i),?_,.int _ _⟩
    show (putCells (Value.int .i64) 0 (C4 l).toArray cs)[i * 1+0]?=_
    unfold putCells
    rw [Array.getElem?_mapIdx,Nat.mul_one,Nat.add_zero,Array.getElem?_eq_getElem (by omega),Option.map_some]
    rw [if_pos ⟨by omega,by simp [M2];omega⟩,Nat.sub_zero]
    have:(C4 l).toArray[i]! = gI (C4 l) i:=by
     have hl:=M2 l
     rw [getElem!_pos _ i (by simp [hl];omega)]
     simp [gI,show i<(C4 l).length by omega]
    rw [this]
 ·rw [A3 e] at hx
  obtain ⟨ds,hd⟩:=hS c x hx
  have hcl:c<w.heap.size:=(Array.getElem?_eq_some_iff.1 hd.heap).1
  exact ⟨ds,hd.evo hev (by rw [hheap c hcl,if_neg (fun e'=>e e'.symm)])⟩
theorem B7B (b:Nat) (l:List Int) (hl:l.length<4611686018427387904) (st:St) (hb:A0U st b l) :
  S P 100 [.own 1 b 0 l.length] st fun v st'=>v=.tuple []∧st'=upd st b (A5J l):=by
 refine ⟨B1e.f5.enters rfl,fun cargs w hr hS=>?_⟩
 obtain ⟨hlen,hr⟩:=hr
 have hb':=hb
 obtain ⟨f,hst,hf⟩:=hb'
 obtain ⟨cs,hok⟩:=hS b _ hst
 have h0:0<cargs.size:=by rw [←hlen];exact Nat.one_pos
 have ha:=hr 0 _ cargs[0] rfl (Array.getElem?_eq_getElem h0)
 have hc:∃ c,cargs=#[.slice (some ⟨b,0,none⟩) l.length c]:=by
  generalize hv:cargs[0]=v at ha
  cases ha with
  | own e b off n c hc hs =>
   refine ⟨c,Array.ext (by rw [←hlen];rfl) fun i h1 h2=>?_⟩
   have:i=0:=by simp at h2;exact h2
   subst this;rw [hv];rfl
 obtain ⟨c,rfl⟩:=hc
 have hH:Holds (Value.int .i64) w b 0 l.toArray:=fun j hj=>by
  have hj':j<l.length:=by simpa using hj
  obtain ⟨x,hx,hrep⟩:=hok.cell j 0 (eI (gI l j)) hj' (by show (cellsOf (f j))[0]?=_;rw [hf j hj'];rfl)
  have hxx:x=.int .i64 (gI l j):=by cases hrep;rfl
  subst hxx
  have hg:l.toArray[j]! = gI l j:=by rw [getElem!_pos _ j (by simpa using hj')];simp [gI,hj']
  refine ⟨?_,?_⟩
  ·unfold World.cell?
   rw [hok.heap,hg]
   have:cs[j * 1+0]?=some (.int .i64 (gI l j)):=hx
   simpa using this
  ·unfold World.frozen?
   rw [hok.heap]
   simp
 have hbl:b<w.heap.size:=(Array.getElem?_eq_some_iff.1 hok.heap).1
 refine (AnyM.slices_Sort_int B1e b 0 c l w hH hbl hl).mono ?_
 rintro e w' ⟨rfl,n,os,rfl⟩
 obtain ⟨h1,h2⟩:=B4j (n:=n) (os:=os) hb hS
 exact ⟨.tuple [],.tuple #[],_,⟨rfl,rfl⟩,rfl,.tuple [] #[] rfl (fun j y c hy=>by simp at hy),h2,h1⟩
theorem B5U (st:St):S P 100 [.emp] st fun v st'=>v=.tuple []∧st'=st:=by
 refine ⟨B1e.f5.enters rfl,fun cargs w hr hS=>?_⟩
 obtain ⟨hlen,hr⟩:=hr
 have h0:0<cargs.size:=by rw [←hlen];exact Nat.one_pos
 have ha:=hr 0 _ cargs[0] rfl (Array.getElem?_eq_getElem h0)
 have hc:∃ A,cargs=#[.slice A 0 0]:=by
  generalize hv:cargs[0]=v at ha
  cases ha with
  | emp A =>
   refine ⟨A,Array.ext (by rw [←hlen];rfl) fun i h1 h2=>?_⟩
   have:i=0:=by simp at h2;exact h2
   subst this;rw [hv];rfl
 obtain ⟨A,rfl⟩:=hc
 refine (AnyM.slices_Sort_int_none B1e A 0 w).mono ?_
 rintro e w' ⟨rfl,rfl⟩
 exact ⟨.tuple [],.tuple #[],_,⟨rfl,rfl⟩,rfl,.tuple [] #[] rfl (fun j y c hy=>by simp at hy),hS,M7.refl _ _⟩
theorem A6V {R:St→St→Prop} (hR:G0 R) {l:List Int} {s t:St} {sv:AV} (hl:l.length<4611686018427387904) (h:ROut R 3 1 (fun k=>eI (gI l k)) l.length s sv t) :
  S P 100 [sv] t fun v t'=>v=.tuple []∧ROut R 3 1 (fun k=>eI (gI (C4 l) k)) l.length s sv t':=by
 obtain ⟨s0,hc,h⟩:=h
 rcases hc with ⟨h0,rfl,rfl⟩ | ⟨h0,bo,g,h1,rfl,rfl,h3⟩
 ·exact (B5U t).mono fun v t' hv=>⟨hv.1,by rw [h0];exact ⟨s0,H6.start _ _ _ _,by rw [hv.2];exact h⟩⟩
 ·have hby:=hR.sup h bo _ (A0 ..)
  refine (B7B bo l hl t ⟨g,hby,h3⟩).mono fun v t' hv=>⟨hv.1,_,.inr ⟨h0,bo,fun k=>eI (gI (C4 l) k),h1,rfl,rfl,fun k hk=>rfl⟩,?_⟩
  rw [hv.2]
  have:=hR.write (y':=A5J l) h (A0 ..)
  rw [G7] at this;exact this
end Go.Proofs.YtbajhapmlfbelaaGreat
namespace Go.Proofs.YtbajhapmlfbelaaGreat
open Go Go.Ab
attribute [local irreducible] upd del
structure Z0 where
 used:List Bool
 es:Nat→List QE
 l:List Int
def T4 (k:Nat) (s:Z0):Option Z0:=match (H8 s.used (s.es k)).1 with
 | none=>none
 | some i=>some ⟨s.used.set i.toNat true,N9 s.es k (H8 s.used (s.es k)).2,s.l++[i]⟩
def O1 (k:Nat):Nat→Z0→Option Z0
 | 0,s=>some s
 | c+1,s=>(O1 k c s).bind (T4 k)
def H1 (parts:List A2D):Nat→Z0→Option Z0
 | 0,s=>some s
 | k+1,s=>(H1 parts k s).bind (O1 k (parts.getD k default).count.toNat)
theorem A4g {k:Nat} {s:Z0}:∀ {c j:Nat},O1 k j s=none→j≤c→O1 k c s=none
 | 0,j,h,hj=>by
  have:j=0:=by omega
  subst this;exact h
 | c+1,j,h,hj=>by
  rcases Nat.lt_or_ge c j with h1 | h1
  ·have:j=c+1:=by omega
   subst this;exact h
  ·unfold O1;rw [A4g h h1];rfl
theorem A3Y {parts:List A2D} {s:Z0}:∀ {c j:Nat},H1 parts j s=none→j≤c→H1 parts c s=none
 | 0,j,h,hj=>by
  have:j=0:=by omega
  subst this;exact h
 | c+1,j,h,hj=>by
  rcases Nat.lt_or_ge c j with h1 | h1
  ·have:j=c+1:=by omega
   subst this;exact h
  ·unfold H1;rw [A3Y h h1];rfl
structure MOk (us:List A6) (n:Nat) (s:Z0):Prop where
 len:s.used.length=us.length
 rng:∀ k,k<n→∀ e∈s.es k,0≤e.2∧e.2.toNat<us.length
 srt:∀ k,k<n→(s.es k).Pairwise fun a b=>D6 b a=false
 mem:∀ x∈s.l,0≤x∧x.toNat<us.length
theorem W7 (used:List Bool) (l:List QE):(∃ pre,l=pre++(match (H8 used l).1 with | none=>[] | some i=>(match l.find? (fun e=>!used.getD e.2.toNat default) with | none=>[] | some e=>[e]))++(H8 used l).2) ∧
  (∀ i,(H8 used l).1=some i→∃ e∈l,e.2=i∧used.getD i.toNat default=false)∧((H8 used l).2.Sublist l)∧((H8 used l).1≠none→(H8 used l).2.length<l.length):=by
 induction l with
 | nil=>exact ⟨⟨[],rfl⟩,(fun i h=>by cases h),List.Sublist.refl _,fun h=>absurd rfl h⟩
 | cons e l ih =>
  obtain ⟨⟨pre,h1⟩,h2,h3,h4⟩:=ih
  by_cases hu:used.getD e.2.toNat default=true
  ·have ht:H8 used (e::l)=H8 used l:=by
    show (if used.getD e.2.toNat default=true then H8 used l else (some e.2,l))=_
    rw [if_pos hu]
   rw [ht]
   refine ⟨⟨e::pre,?_⟩,fun i hi=>?_,h3.cons _,fun h=>by have:=h4 h;simp;omega⟩
   ·rw [List.find?_cons_of_neg (by rw [hu];simp)]
    rw [List.cons_append,List.cons_append,←h1]
   ·obtain ⟨x,hx,hx2⟩:=h2 i hi
    exact ⟨x,List.mem_cons_of_mem _ hx,hx2⟩
  ·have ht:H8 used (e::l)=(some e.2,l):=by
    show (if used.getD e.2.toNat default=true then H8 used l else (some e.2,l))=_
    rw [if_neg hu]
   rw [ht]
   refine ⟨⟨[],?_⟩,fun i hi=>?_,List.sublist_cons_self _ _,fun _=>by simp⟩
   ·rw [List.find?_cons_of_pos (by rw [Bool.eq_false_iff.2 hu];rfl)];rfl
   ·have:e.2=i:=by simpa using hi
    exact ⟨e,List.mem_cons_self ..,this,by rw [←this];exact Bool.eq_false_iff.2 hu⟩
theorem MOk.take {us:List A6} {n:Nat} {s s':Z0} (h:MOk us n s) {k:Nat} (hk:k<n) (ht:T4 k s=some s'):MOk us n s':=by
 obtain ⟨_,t2,t3,_⟩:=W7 s.used (s.es k)
 unfold T4 at ht
 split at ht
 ·cases ht
 ·rename_i i hi
  cases ht
  obtain ⟨e,he,rfl,hu⟩:=t2 i hi
  have hr:=h.rng k hk e he
  refine ⟨by rw [List.length_set];exact h.len,fun j hj x hx=>?_,fun j hj=>?_,fun x hx=>?_⟩
  ·by_cases ej:j=k
   ·subst ej;rw [show (Z0.es _ j)=_ from rfl] at hx;simp only [C5] at hx;exact h.rng j hj x (t3.subset hx)
   ·simp only [F3 ej] at hx;exact h.rng j hj x hx
  ·by_cases ej:j=k
   ·subst ej;simp only [C5];exact (h.srt j hj).sublist t3
   ·simp only [F3 ej];exact h.srt j hj
  ·rcases List.mem_append.1 hx with hx | hx
   ·exact h.mem x hx
   ·rw [List.mem_singleton] at hx;rw [hx];exact hr
theorem B2v {k:Nat} {s s':Z0} (ht:T4 k s=some s'):s'.l.length=s.l.length+1:=by
 unfold T4 at ht
 split at ht
 ·cases ht
 ·cases ht;simp
theorem W8 {k:Nat} {s:Z0}:∀ {c:Nat} {s':Z0},O1 k c s=some s'→s'.l.length=s.l.length+c
 | 0,s',h=>by cases h;rfl
 | c+1,s',h=>by
  unfold O1 at h
  obtain ⟨s1,h1,h2⟩:=Option.bind_eq_some_iff.1 h
  rw [B2v h2,W8 h1];omega
theorem MOk.takes {us:List A6} {n:Nat} {s:Z0} (h:MOk us n s) {k:Nat} (hk:k<n):∀ {c:Nat} {s':Z0},O1 k c s=some s'→MOk us n s'
 | 0,s',e=>by cases e;exact h
 | c+1,s',e=>by
  unfold O1 at e
  obtain ⟨s1,h1,h2⟩:=Option.bind_eq_some_iff.1 e
  exact (h.takes hk h1).take hk h2
structure A1W (p:A8):Prop where
 n1:1≤p.parts.length
 n8:p.parts.length≤8
 cnt:∀ x∈p.parts,1≤x.count∧x.count≤100
 amt:0≤p.amount∧p.amount≤10000000000000
theorem A1W.at {p:A8} (h:A1W p) {k:Nat} (hk:k<p.parts.length):1≤(p.parts.getD k default).count∧(p.parts.getD k default).count≤100:=h.cnt _ (A7 hk)
theorem MOk.parts {us:List A6} {p:A8} {s:Z0} (h:MOk us p.parts.length s):∀ {k:Nat} {s':Z0},k≤p.parts.length→H1 p.parts k s=some s'→MOk us p.parts.length s'
 | 0,s',_,e=>by cases e;exact h
 | k+1,s',hk,e=>by
  unfold H1 at e
  obtain ⟨s1,h1,h2⟩:=Option.bind_eq_some_iff.1 e
  exact (MOk.parts h (by omega) h1).takes (by omega) h2
theorem A0B {p:A8} (hp:A1W p) {s:Z0}:∀ {k:Nat} {s':Z0},k≤p.parts.length→H1 p.parts k s=some s'→s'.l.length≤s.l.length+100 * k
 | 0,s',_,e=>by cases e;omega
 | k+1,s',hk,e=>by
  unfold H1 at e
  obtain ⟨s1,h1,h2⟩:=Option.bind_eq_some_iff.1 e
  have:=A0B hp (by omega) h1
  have:=W8 h2
  have:=hp.at (show k<p.parts.length by omega)
  omega
def F6 (us:List A6) (l:List Int):Int:=A2 (l.map fun i=>(gU us i.toNat).net)
theorem B1A (us:List A6) (l:List Int) (i:Int):F6 us (l++[i])=F6 us l+(gU us i.toNat).net:=by
 unfold F6;rw [List.map_append,E0];simp [A2]
theorem X2 {us:List A6} (hu:C0 us) (l:List Int) (hl:∀ x∈l,0≤x∧x.toNat<us.length):0≤F6 us l∧F6 us l≤10000000000000 * l.length:=by
 unfold F6
 have c1:∀ (y:Int) (r:List Int),A2 (y::r)=y+A2 r:=fun y r=>by
  have:=E0 [y] r
  rw [List.singleton_append] at this
  rw [this];simp [A2]
 induction l with
 | nil=>exact ⟨Int.le_refl _,by simp [A2]⟩
 | cons x l ih =>
  have h1:=ih (fun y hy=>hl y (List.mem_cons_of_mem _ hy))
  have h2:=hl x (List.mem_cons_self ..)
  have h3:0≤(gU us x.toNat).net:=hu.pos _ (A7 h2.2)
  have h4:(gU us x.toNat).net≤10000000000000:=hu.le (A7 h2.2)
  rw [List.map_cons,c1,List.length_cons]
  omega
theorem B7f (d:MkD) (hn:d.n=d.p.parts.length) (hp:A1W d.p) (hu:C0 d.us) (ms:Z0) (hl0:ms.l=[]) (hm:MOk d.us d.n ms) (s t:St) (h:MkR d ms.used ms.es s t) :
  S P 296 [.optr 18 d.bm 0 0] t fun v t'=>match H1 d.p.parts d.n ms with
   | none=>v=.tuple [.emp,eI 0,eB false]∧E2 s t'
   | some ms'=>v=.tuple [B2 (C4 ms'.l),eI (F6 d.us ms'.l - d.p.amount),eB (decide (F6 d.us ms'.l>d.p.amount))]∧MkR d ms'.used ms'.es s t':=by
 have hB:=fun (u:List Bool) (es:Nat→List QE)=>B0y d u es
 refine S.post (post:=fun v t'=>match H1 d.p.parts d.n ms with
   | none=>v=.tuple [.emp,eI 0,eB false]∧E2 s t'
   | some ms'=>∃ sv,v=.tuple [sv,eI (F6 d.us ms'.l - d.p.amount),eB (decide (F6 d.us ms'.l>d.p.amount))]∧ROut (MkR d ms'.used ms'.es) 3 1 (fun k=>eI (gI (C4 ms'.l) k)) ms'.l.length s sv t') ?_
  (fun v t' hv=>by
   cases hF:H1 d.p.parts d.n ms with
   | none=>rw [hF] at hv;exact ⟨v,t',hv,A4.refl _ _⟩
   | some ms' =>
    rw [hF] at hv
    obtain ⟨sv,rfl,hout⟩:=hv
    obtain ⟨t'',h1,h2⟩:=hout.shift (hB _ _)
    refine ⟨_,t'',⟨rfl,h2⟩,A4.tuple (A4.cons (h1.trans ?_) (A4.keep _ _)) rfl⟩
    have e:B2 (C4 ms'.l)=.arr 1 ms'.l.length (fun k=>eI (gI (C4 ms'.l) k)):=by unfold B2 A5;rw [M2]
    rw [e];exact A4.keep _ _)
 have hp8:=hp.n8
 refine SyW [8] Tryz.func296 ?_
 obtain ⟨⟨fm,hmb,hm0⟩,_,_⟩:=h.facts
 conv=>whnf
 refine J7 hmb hm0 ?_
 refine ⟨[0,5,6,15,16,17],fun m vs t'=>∃ (k:Nat) (ms':Z0) (sv:AV),k≤d.n∧m=d.n - k∧vs=[.optr 18 d.bm 0 0,sv,eI (F6 d.us ms'.l),A5 3 A0K d.p.parts,eI d.p.parts.length,eI k]∧H1 d.p.parts k ms=some ms'∧ROut (MkR d ms'.used ms'.es) 3 1 (fun j=>eI (gI ms'.l j)) ms'.l.length s sv t',?_,?_⟩
 ·conv=>whnf
  refine ⟨_,0,ms,.emp,Nat.zero_le _,rfl,?_,rfl,?_⟩
  ·rw [hl0];rfl
  ·rw [hl0];exact ROut.start h _ _ _
 ·clear h hmb hm0
  rintro m vs t' ⟨k,ms1,sv,hk,rfl,rfl,hF,hout⟩
  have hok:=MOk.parts (hn▸hm) (hn▸hk) hF
  have hlen:=A0B hp (hn▸hk) hF
  rw [hl0,List.length_nil] at hlen
  have hcb:=X2 hu ms1.l hok.mem
  conv=>whnf
  cases h2:decide ((k:Int)<(d.p.parts.length:Int))
  ·have:=of_decide_eq_false h2
   obtain rfl:k=d.n:=by omega
   rw [hF];conv=>whnf
   refine call (A6V (hB _ _) (by omega) hout) (fun v t2 hv=>?_)
   obtain ⟨rfl,hout2⟩:=hv
   obtain ⟨⟨fm,hmb,hm0⟩,_,_⟩:=(hout2.dropped (hB _ _)).facts
   conv=>whnf
   refine ⟨[],[],[0,1,2,3,4,5,6,7,8,9,10,11,12,13,14,15,16,17],by kernel_rfl,?_⟩;conv=>whnf
   refine J7 hmb hm0 ?_
   refine J7 hmb hm0 ?_
   have ha:=hp.amt
   have w:IntKind.i64.wrap (F6 d.us ms1.l - d.p.amount)=F6 d.us ms1.l - d.p.amount:=B0 (by omega) (by omega)
   exact ⟨_,by rw [w];rfl,hout2⟩
  ·have hk':k<d.p.parts.length:=by have:=of_decide_eq_true h2;omega
   have hcnt:=hp.at hk'
   conv=>whnf
   refine G9 ?_
   refine ⟨[0,5,6,7,15,16,17,23,24],fun m vs t'=>∃ (j:Nat) (ms':Z0) (sv:AV),(j:Int)≤(d.p.parts.getD k default).count∧m=(d.p.parts.getD k default).count.toNat - j∧vs=[.optr 18 d.bm 0 0,sv,eI (F6 d.us ms'.l),eI k,A5 3 A0K d.p.parts,eI d.p.parts.length,eI k,eI (d.p.parts.getD k default).count,eI j]∧O1 k j ms1=some ms'∧ROut (MkR d ms'.used ms'.es) 3 1 (fun j=>eI (gI ms'.l j)) ms'.l.length s sv t',?_,?_⟩
   ·conv=>whnf
    exact ⟨_,0,ms1,sv,by omega,rfl,rfl,rfl,hout⟩
   ·clear hout
    rintro m vs t' ⟨j,ms2,sv,hj,rfl,rfl,hF2,hout⟩
    have hok2:=hok.takes hk' hF2
    have hlen2:=W8 hF2
    have hcb2:=X2 hu ms2.l hok2.mem
    conv=>whnf
    cases h3:decide ((j:Int)<(d.p.parts.getD k default).count)
    ·have:=of_decide_eq_false h3
     have ej:j=(d.p.parts.getD k default).count.toNat:=by omega
     conv=>whnf
     refine H4 ?_
     refine ⟨d.n - (k+1),by omega,k+1,ms2,sv,by omega,rfl,by rw [B7 (by omega)],?_,hout⟩
     unfold H1;rw [hF,←ej];exact hF2
    ·have hj':(j:Int)<(d.p.parts.getD k default).count:=of_decide_eq_true h3
     obtain ⟨s0,hcol,hMk⟩:=hout
     conv=>whnf
     refine call (B7F d ms2.used ms2.es s0 t' hMk k (by omega) (fun e he=>by rw [hok2.len];exact hok2.rng k hk' e he) (hok2.srt k hk')) (fun v t2 hv=>?_)
     obtain ⟨rfl,hMk2⟩:=hv
     have hT:O1 k (j+1) ms1=T4 k ms2:=by
      show (O1 k j ms1).bind (T4 k)=_
      rw [hF2];rfl
     have hmem:=(W7 ms2.used (ms2.es k)).2.1
     cases hR:(H8 ms2.used (ms2.es k)).1 with
     | none =>
      have h4:T4 k ms2=none:=by unfold T4;rw [hR]
      rw [h4] at hT
      have h5:=A4g (c:=(d.p.parts.getD k default).count.toNat) hT (by omega)
      have h6:H1 d.p.parts (k+1) ms=none:=by unfold H1;rw [hF];exact h5
      have h7:=A3Y (c:=d.n) h6 (by omega)
      rw [h7];conv=>whnf
      exact ⟨rfl,hcol.sup.trans ((hB _ _).sup hMk2)⟩
     | some i =>
      have h4:T4 k ms2=some ⟨ms2.used.set i.toNat true,N9 ms2.es k (H8 ms2.used (ms2.es k)).2,ms2.l++[i]⟩:=by unfold T4;rw [hR]
      rw [hR] at hMk2
      obtain ⟨e,he,rfl,_⟩:=hmem i hR
      have hx:=hok2.rng k hk' e he
      have hn0:0≤(gU d.us e.2.toNat).net:=hu.pos _ (A7 hx.2)
      have hn1:(gU d.us e.2.toNat).net≤10000000000000:=hu.le (A7 hx.2)
      conv=>whnf
      refine ROut.app (q:=r3) (hB _ _) rfl rfl rfl rfl rfl (f:=fun j=>eI (gI (ms2.l++[e.2]) j)) (by simp only [A7q];rfl) (by show (ms2.l.length+1) * 8≤140737488355328;omega) ⟨s0,H6.congr hcol fun j hj=>by rw [V2 hj],hMk2⟩ (fun sv' t3 hout3=>?_)
      obtain ⟨⟨fm,hmb,hm0⟩,_,_⟩:=(hout3.dropped (hB _ _)).facts
      conv=>whnf
      refine J7 hmb hm0 ?_
      refine ⟨rfl,⟨by show 0≤e.2;omega,by show e.2<(d.us.length:Int);omega⟩,?_⟩;conv=>whnf
      refine H4 ?_
      have w:IntKind.i64.wrap (F6 d.us ms2.l+(gU d.us e.2.toNat).net)=F6 d.us (ms2.l++[e.2]):=by rw [B1A];exact B0 (by omega) (by omega)
      refine ⟨(d.p.parts.getD k default).count.toNat - (j+1),by omega,j+1,⟨ms2.used.set e.2.toNat true,N9 ms2.es k (H8 ms2.used (ms2.es k)).2,ms2.l++[e.2]⟩,sv',by omega,rfl,?_,by rw [hT];exact h4,?_⟩
      ·rw [B7 (by omega),←w]
      ·rw [List.length_append];exact hout3
theorem G6 (y:Int) (r:List Int):A2 (y::r)=y+A2 r:=by
 have:=E0 [y] r
 rw [List.singleton_append] at this
 rw [this];simp [A2]
theorem A6X {a b:List Int} (h:a.Perm b):A2 a=A2 b:=by
 induction h with
 | nil=>rfl
 | cons x _ ih=>rw [G6,G6,ih]
 | swap x y l=>rw [G6,G6,G6,G6];omega
 | trans _ _ ih1 ih2=>exact ih1.trans ih2
theorem B1h {l:List Int} {B:Int} (h:∀ x∈l,x≤B):A2 l≤l.length * B:=by
 induction l with
 | nil=>simp [A2]
 | cons x l ih =>
  have h1:=ih (fun y hy=>h y (List.mem_cons_of_mem _ hy))
  have h2:=h x (List.mem_cons_self ..)
  rw [G6,List.length_cons]
  have:((l.length+1:Nat):Int) * B=l.length * B+B:=by
   rw [show ((l.length+1:Nat):Int)=(l.length:Int)+1 by omega,Int.add_mul,Int.one_mul]
  omega
theorem B1u {qs:List Int} {R:List QE} (hl:∀ e∈R,e.2.toNat<qs.length) (hd:(R.map fun e=>e.2.toNat).Nodup) (k:Nat):gI (L3 qs R) k=gI qs k+if k∈R.map (fun e=>e.2.toNat) then 1 else 0:=by
 unfold L3
 induction R generalizing qs with
 | nil=>simp
 | cons e R ih =>
  rw [List.map_cons,List.nodup_cons] at hd
  have he:=hl e (List.mem_cons_self ..)
  simp only [List.foldl_cons]
  rw [ih (fun x hx=>by rw [List.length_set];exact hl x (List.mem_cons_of_mem _ hx)) hd.2]
  have hs:gI (qs.set e.2.toNat (gI qs e.2.toNat+1)) k=if k=e.2.toNat then gI qs k+1 else gI qs k:=by
   unfold gI
   simp only [List.getD_eq_getElem?_getD,List.getElem?_set]
   by_cases h:k=e.2.toNat
   ·subst h;simp [he]
   ·rw [if_neg (fun e'=>h e'.symm),if_neg h]
  rw [hs,List.map_cons]
  by_cases h:k=e.2.toNat
  ·subst h
   rw [if_pos rfl,if_neg hd.1,if_pos (List.mem_cons_self ..)];omega
  ·rw [if_neg h]
   by_cases h2:k∈R.map (fun e=>e.2.toNat)
   ·rw [if_pos h2,if_pos (List.mem_cons_of_mem _ h2)]
   ·rw [if_neg h2,if_neg (fun h3=>by
     rcases List.mem_cons.1 h3 with h4 | h4
     ·exact h h4
     ·exact h2 h4)]
theorem B5X {total:Int} {ws:List Int} (h:J8 total ws) (hS:0<A2 ws) {i:Nat} (hi:(i:Int)<G4 total (A2 ws) ws ws.length):0<((shR total (A2 ws) ws).getD i default).1:=by
 have hlr:=A0y h hS
 have hlen:=A7O total (A2 ws) ws
 have hil:i<(shR total (A2 ws) ws).length:=by omega
 refine Int.lt_of_not_ge fun hneg=>?_
 have hsum:A2 ((shR total (A2 ws) ws).map (·.1))=A2 ws * G4 total (A2 ws) ws ws.length:=by
  have hp:=(W6 total (A2 ws) ws).map (·.1)
  rw [A6X hp,List.map_map]
  have e:=A4A total (A2 ws) hS ws ws.length (Nat.le_refl _)
  rw [List.take_length] at e
  unfold G4
  rw [Int.mul_sub,Int.mul_comm (A2 ws) total]
  have:(List.range ws.length).map ((fun e:QE=>e.1) ∘ shE total (A2 ws) ws)=(List.range ws.length).map fun k=>total * gI ws k % A2 ws:=rfl
  rw [this];omega
 have hsorted:=A5G total (A2 ws) ws
 have hrest:∀ e∈shR total (A2 ws) ws,0≤e.1∧e.1≤A2 ws - 1:=fun e he=>by
  obtain ⟨k,hk,rfl⟩:=List.mem_map.1 ((W6 total (A2 ws) ws).subset he)
  have h1:=Int.emod_nonneg (total * gI ws k) (show A2 ws≠0 by omega)
  have h2:=Int.emod_lt_of_pos (total * gI ws k) hS
  show 0≤total * gI ws k % A2 ws∧total * gI ws k % A2 ws≤A2 ws - 1
  omega
 generalize hR:shR total (A2 ws) ws=R at *
 have hsplit:R=R.take i++R.drop i:=(List.take_append_drop i R).symm
 have hcons:R.drop i=R.getD i default::R.drop (i+1):=by
  rw [List.getD_eq_getElem?_getD,List.getElem?_eq_getElem hil]
  exact List.drop_eq_getElem_cons hil
 have hdrop:A2 ((R.drop i).map (·.1))≤0:=by
  have:∀ x∈(R.drop i).map (·.1),x≤0:=fun x hx=>by
   obtain ⟨e,he,rfl⟩:=List.mem_map.1 hx
   rw [hcons] at he
   rcases List.mem_cons.1 he with rfl | he
   ·exact hneg
   ·have hs:=hsorted.sublist (List.drop_sublist i R)
    rw [hcons,List.pairwise_cons] at hs
    have:=(W4 _ _).1 (hs.1 e he)
    omega
  have:=B1h this
  omega
 have htake:A2 ((R.take i).map (·.1))≤i * (A2 ws - 1):=by
  have h1:=B1h (l:=(R.take i).map (·.1)) (B:=A2 ws - 1) (fun x hx=>by
   obtain ⟨e,he,rfl⟩:=List.mem_map.1 hx
   exact (hrest e (List.take_subset _ _ he)).2)
  rw [List.length_map,List.length_take,Nat.min_eq_left (by omega)] at h1
  exact h1
 have hall:A2 (R.map (·.1))=A2 ((R.take i).map (·.1))+A2 ((R.drop i).map (·.1)):=by
  conv=>lhs;rw [hsplit]
  rw [List.map_append,E0]
 have h2:A2 ws * ((i:Int)+1)≤A2 ws * G4 total (A2 ws) ws ws.length:=Int.mul_le_mul_of_nonneg_left (by omega) (by omega)
 rw [Int.mul_add,Int.mul_one] at h2
 have h3:(i:Int) * (A2 ws - 1)=A2 ws * i - i:=by rw [Int.mul_sub,Int.mul_one,Int.mul_comm]
 omega
theorem A0x {total:Int} {ws:List Int} (h:J8 total ws) (ht:total≤A2 ws) {k:Nat} (hk:k<ws.length):gI (C3 total ws) k≤gI ws k:=by
 have hw:=h.w0 _ (A7 hk)
 unfold C3
 split
 ·rename_i h0
  have:gI (ws.map fun _=>(0:Int)) k=0:=E7 (fun _:Int=>(0:Int)) ws hk
  rw [this];exact hw
 ·rename_i h0
  have hS:0<A2 ws:=by have:=B8 h.w0;omega
  have hmem:∀ e∈(shR total (A2 ws) ws).take (G4 total (A2 ws) ws ws.length).toNat,e.2.toNat<((List.range ws.length).map (shQ total (A2 ws) ws)).length:=fun e he=>by
   rw [List.length_map,List.length_range];exact (A7P (List.take_subset _ _ he)).2
  have hnd:(((shR total (A2 ws) ws).take (G4 total (A2 ws) ws ws.length).toNat).map fun e=>e.2.toNat).Nodup:=by
   have h1:((shR total (A2 ws) ws).map fun e=>e.2.toNat).Nodup:=by
    have hp:=(W6 total (A2 ws) ws).map fun e=>e.2.toNat
    refine hp.nodup_iff.2 ?_
    rw [List.map_map]
    have:(List.range ws.length).map ((fun e:QE=>e.2.toNat) ∘ shE total (A2 ws) ws)=(List.range ws.length).map id:=by
     refine List.map_congr_left fun k _=>?_
     show (k:Int).toNat=k
     omega
    rw [this,List.map_id]
    exact List.nodup_range
   exact h1.sublist ((List.take_sublist _ _).map _)
  rw [B1u hmem hnd,N4 _ hk]
  have e1:=Int.mul_ediv_add_emod (total * gI ws k) (A2 ws)
  have e2:=Int.emod_nonneg (total * gI ws k) (show A2 ws≠0 by omega)
  have e3:total * gI ws k≤A2 ws * gI ws k:=Int.mul_le_mul_of_nonneg_right ht hw
  have e4:shQ total (A2 ws) ws k=total * gI ws k / A2 ws:=rfl
  split
  ·rename_i hin
   obtain ⟨e,he,hek⟩:=List.mem_map.1 hin
   obtain ⟨i,hi,rfl⟩:=E4 he
   rw [List.length_take] at hi
   have hle:=A0y h hS
   have hpos:=B5X h hS (i:=i) (by omega)
   have hti:((shR total (A2 ws) ws).take (G4 total (A2 ws) ws ws.length).toNat).getD i default=(shR total (A2 ws) ws).getD i default:=by
    rw [List.getD_eq_getElem?_getD,List.getD_eq_getElem?_getD,List.getElem?_take_of_lt (by omega)]
   rw [hti] at hek
   have hm2:(shR total (A2 ws) ws).getD i default∈shR total (A2 ws) ws:=A7 (by omega)
   obtain ⟨j,hj,hje⟩:=List.mem_map.1 ((W6 total (A2 ws) ws).subset hm2)
   have hjk:j=k:=by rw [←hek,←hje];show j=(j:Int).toNat;omega
   subst hjk
   rw [←hje] at hpos
   have hpos':0<total * gI ws j % A2 ws:=hpos
   have h5:A2 ws * (total * gI ws j / A2 ws)<A2 ws * gI ws j:=by omega
   have h6:total * gI ws j / A2 ws<gI ws j:=Int.lt_of_mul_lt_mul_left h5 (by omega)
   omega
  ·have h5:A2 ws * (total * gI ws k / A2 ws)≤A2 ws * gI ws k:=by omega
   have h6:total * gI ws k / A2 ws≤gI ws k:=Int.le_of_mul_le_mul_left h5 hS
   omega
structure Q9 (us:List A6) (l:List Int):Prop where
 rng:∀ k,k<l.length→0≤gI l k∧(gI l k).toNat<us.length
 ne:∀ i k,i<k→k<l.length→(gI l i).toNat≠(gI l k).toNat
theorem I7.places {us:List A6} {mine:List Int} (h:I7 us mine):Q9 us mine :=
 ⟨h.rng,fun i k hik hk=>by
  have h1:=h.lt i k hik hk
  have h2:=(h.rng i (by omega)).1
  omega⟩
theorem A0F {us:List A6} {mine offs:List Int} (hm:Q9 us mine):∀ k,k≤mine.length→∀ j,j<us.length→(∀ i,i<k→j≠(gI mine i).toNat)→gU (F5 us mine offs k) j=gU us j
 | 0,_,j,hj,_=>rfl
 | k+1,hk,j,hj,hne=>by
  have ih:=A0F (offs:=offs) hm k (by omega) j hj (fun i hi=>hne i (by omega))
  unfold F5 less1
  rw [A3y (by rw [J5];exact (hm.rng k (by omega)).2),if_neg (hne k (by omega))]
  exact ih
theorem A4e {us:List A6} {mine offs:List Int} (hm:Q9 us mine) {k:Nat} (hk:k<mine.length):gU (F5 us mine offs k) (gI mine k).toNat=gU us (gI mine k).toNat :=
 A0F hm k (by omega) _ (hm.rng k hk).2 fun i hi=>fun e=>hm.ne i k hi hk e.symm
theorem Y3 {us:List A6} (hu:C0 us) {mine offs:List Int} (hm:Q9 us mine) (hlen:offs.length≤mine.length) (h:∀ k,k<offs.length→0≤gI offs k∧gI offs k≤(gU us (gI mine k).toNat).net):∀ k,k≤offs.length→Y8 us (F5 us mine offs k) (A2 (offs.take k))
 | 0,_=>Y8.refl hu
 | k+1,hk=>by
  have ih:=Y3 hu hm hlen h k (by omega)
  have hr:=hm.rng k (by omega)
  have hx:=h k (by omega)
  rw [I8 (by omega)]
  refine ih.trans (Y8.less1 (ih.ok hu) (by rw [J5];exact hr.2) hx.1 ?_)
  rw [A4e hm (by omega)];exact hx.2
def D7 (us:List A6) (l:List Int):List Int:=l.map fun i=>(gU us i.toNat).net
def A1Y (us:List A6) (l:List Int) (amount:Int):List A6:=F5 us l (C3 amount (D7 us l)) l.length
theorem B1N {us:List A6} (hu:C0 us) {l:List Int} (hm:Q9 us l) {amount:Int} (hW:J8 amount (D7 us l)) (ha:amount≤A2 (D7 us l)):Y8 us (A1Y us l amount) amount:=by
 obtain ⟨a,b,c⟩:=S9 hW
 have hl:(D7 us l).length=l.length:=by unfold D7;rw [List.length_map]
 have:=Y3 hu hm (offs:=C3 amount (D7 us l)) (by omega) (fun k hk=>⟨c _ (A7 hk),by
  have h1:=A0x hW ha (k:=k) (by omega)
  have h2:gI (D7 us l) k=(gU us (gI l k).toNat).net:=E7 (fun i:Int=>(gU us i.toNat).net) l (by omega)
  rw [h2] at h1;exact h1⟩) (C3 amount (D7 us l)).length (Nat.le_refl _)
 rw [List.take_length,a] at this
 unfold A1Y
 rw [show l.length=(C3 amount (D7 us l)).length by omega]
 exact this
theorem B5b (bo:Nat) (us:List A6) (hu:C0 us) (l:List Int) (hl:l.length≤100000) (hm:Q9 us l) (amount:Int) (hW:J8 amount (D7 us l)) (st:St) (hb:A0V st bo us) :
  S P 297 [.own 3 bo 0 us.length,B2 l,eI amount] st fun v st'=>v=.tuple []∧∃ f,st'=upd st bo ⟨152,3,us.length,f⟩∧∀ k,k<us.length→f k=U1 (gU (A1Y us l amount) k):=by
 have hul:=hu.len
 have hwl:(D7 us l).length=l.length:=by unfold D7;rw [List.length_map]
 obtain ⟨lg1,lg2,lg3⟩:=S9 hW
 refine SyW [] Tryz.func297 ?_
 obtain ⟨fu,hst,hfu⟩:=hb
 conv=>whnf
 refine ⟨[0,1,2,6,13,14,15],fun m vs st'=>∃ (i:Nat) (sv:AV),i≤l.length∧m=l.length - i∧vs=[.own 3 bo 0 us.length,B2 l,eI amount,sv,B2 l,eI l.length,eI i]∧H6 2 1 (fun k=>eI (gI (D7 us l) k)) st i sv st',?_,?_⟩
 ·conv=>whnf
  exact ⟨_,0,.emp,Nat.zero_le _,rfl,rfl,H6.start _ _ _ _⟩
 ·rintro m vs st' ⟨i,sv,hi,rfl,rfl,hcol⟩
  have hst':=hcol.sup bo _ hst
  conv=>whnf
  cases h:decide ((i:Int)<(l.length:Int))
  ·have:=of_decide_eq_false h
   obtain rfl:i=l.length:=by omega
   conv=>whnf
   have hsh:A4 [eI amount,sv] st' [eI amount,B2 (D7 us l)] st:=by
    refine A4.cons (A4.keep _ _) ?_
    have e:B2 (D7 us l)=.arr 1 l.length (fun k=>eI (gI (D7 us l) k)):=by unfold B2 A5;rw [hwl]
    rw [e];exact hcol.shift
   refine F0 hsh (C1 (A6G amount (D7 us l) hW st) ?_)
   have hX:∀ k,k<l.length→0≤gI (C3 amount (D7 us l)) k∧gI (C3 amount (D7 us l)) k≤100000000000000:=fun k hk=>by
    have h1:=lg3 _ (A7 (show k<(C3 amount (D7 us l)).length by omega))
    have h2:=I3 lg3 (A7 (show k<(C3 amount (D7 us l)).length by omega))
    have:=hW.t1
    exact ⟨h1,by show gI _ _≤_;unfold gI;omega⟩
   have hlf:A1Y us l amount=F5 us l (C3 amount (D7 us l)) l.length:=rfl
   have hlen:(C3 amount (D7 us l)).length=l.length:=by omega
   rw [hlf]
   generalize C3 amount (D7 us l)=xs at *
   conv=>whnf
   refine ⟨[0,1,34,35,36],fun m vs st'=>∃ (k:Nat) (f:Nat→AV),k≤l.length∧m=l.length - k∧vs=[.own 3 bo 0 us.length,B2 l,B2 xs,eI xs.length,eI k]∧st'=upd st bo ⟨152,3,us.length,f⟩∧∀ j,j<us.length→f j=U1 (gU (F5 us l xs k) j),?_,?_⟩
   ·conv=>whnf
    exact ⟨_,0,fu,Nat.zero_le _,rfl,rfl,(B4v hst).symm,hfu⟩
   ·rintro m vs st' ⟨k,f,hk,rfl,rfl,rfl,hf⟩
    conv=>whnf
    cases h2:decide ((k:Int)<(xs.length:Int))
    ·have:=of_decide_eq_false h2
     obtain rfl:k=l.length:=by omega
     conv=>whnf
     exact ⟨rfl,f,rfl,hf⟩
    ·have hk':k<l.length:=by have:=of_decide_eq_true h2;omega
     have hr:=hm.rng k hk'
     have hat:=A4e (offs:=xs) hm hk'
     have hx:=hX k hk'
     have hnet0:0≤(gU us (gI l k).toNat).net:=hu.pos _ (A7 hr.2)
     have hnet1:(gU us (gI l k).toNat).net≤10000000000000:=hu.le (A7 hr.2)
     have hfm:f (0+(gI l k).toNat)=U1 (gU (F5 us l xs k) (gI l k).toNat):=by rw [Nat.zero_add];exact hf _ hr.2
     conv=>whnf
     refine G9 ?_
     refine G9 ?_
     refine ⟨rfl,⟨by show 0≤gI l k;exact hr.1,by show gI l k<(us.length:Int);have:=hr.2;have:=hr.1;omega⟩,?_⟩;conv=>whnf
     refine ldV (A0 ..) rfl (by show 0+(gI l k).toNat<_;have:=hr.2;omega) hfm ?_;conv=>whnf
     refine ⟨rfl,⟨by show 0≤gI l k;exact hr.1,by show gI l k<(us.length:Int);have:=hr.2;have:=hr.1;omega⟩,?_⟩;conv=>whnf
     refine stV (A0 ..) rfl (by show 0+(gI l k).toNat<_;have:=hr.2;omega) hfm (by rfl) ?_;conv=>whnf
     refine H4 ?_
     refine ⟨l.length - (k+1),by omega,k+1,_,by omega,rfl,by rw [B7 (by omega)],G7,fun j hj=>?_⟩
     have w:IntKind.i64.wrap ((gU (F5 us l xs k) (gI l k).toNat).net - gI xs k)=(gU (F5 us l xs k) (gI l k).toNat).net - gI xs k:=by
      rw [hat];exact B0 (by omega) (by omega)
     show _=U1 (gU (less1 (F5 us l xs k) (gI l k).toNat (gI xs k)) j)
     unfold less1
     rw [A3y (by rw [J5];exact hr.2)]
     by_cases hj2:j=(gI l k).toNat
     ·rw [if_pos hj2,hj2,←w]
      show L4 f (0+(gI l k).toNat) _ _=_
      rw [Nat.zero_add,B3];rfl
     ·rw [if_neg hj2]
      show L4 f (0+(gI l k).toNat) _ _=_
      rw [Nat.zero_add,J9 hj2];exact hf j hj
  ·have hi':i<l.length:=by have:=of_decide_eq_true h;omega
   have hr:=hm.rng i hi'
   have hg:gI (D7 us l) i=(gU us (gI l i).toNat).net:=E7 (fun i:Int=>(gU us i.toNat).net) l hi'
   conv=>whnf
   refine G9 ?_
   refine ⟨rfl,⟨by show 0≤gI l i;exact hr.1,by show gI l i<(us.length:Int);have:=hr.2;have:=hr.1;omega⟩,?_⟩;conv=>whnf
   refine ldV hst' rfl (by show 0+(gI l i).toNat<_;have:=hr.2;omega) (v:=U1 (gU us (gI l i).toNat)) (by show fu (0+(gI l i).toNat)=_;rw [Nat.zero_add];exact hfu _ hr.2) ?_;conv=>whnf
   refine H6.app (q:=r2) rfl rfl rfl rfl rfl (by simp only [hg];rfl) (by show (i+1) * 8≤140737488355328;omega) hcol (fun sv' st'' hcol'=>?_);conv=>whnf
   refine H4 ?_
   exact ⟨l.length - (i+1),by omega,i+1,sv',by omega,rfl,by rw [B7 (by omega)],hcol'⟩
end Go.Proofs.YtbajhapmlfbelaaGreat
namespace Go.Proofs.YtbajhapmlfbelaaGreat
open Go Go.Ab
def tot:Nat→(Nat→List QE)→Nat
 | 0,_=>0
 | n+1,es=>tot n es+(es n).length
theorem B2B {n:Nat} {es es':Nat→List QE} (h:∀ i,i<n→(es' i).length=(es i).length):tot n es'=tot n es:=by
 induction n with
 | zero=>rfl
 | succ n ih=>unfold tot;rw [ih fun i hi=>h i (by omega),h n (by omega)]
theorem B4u {n:Nat} {es:Nat→List QE} {k:Nat} (hk:k<n) (l:List QE):tot n (N9 es k l)+(es k).length=tot n es+l.length:=by
 induction n with
 | zero=>omega
 | succ n ih =>
  unfold tot
  by_cases e:k=n
  ·subst e
   rw [C5,B2B (es:=es) fun i hi=>by rw [F3 (by omega)]];omega
  ·have:=ih (by omega)
   rw [F3 (fun e'=>e e'.symm)];omega
theorem B2w {n k:Nat} (hk:k<n) {s s':Z0} (h:T4 k s=some s'):tot n s'.es+s'.l.length≤tot n s.es+s.l.length:=by
 have h4:=(W7 s.used (s.es k)).2.2.2
 unfold T4 at h
 split at h
 ·cases h
 ·rename_i i hi
  cases h
  have:=h4 (by rw [hi];simp)
  have:=B4u hk (H8 s.used (s.es k)).2 (es:=s.es)
  simp only [List.length_append,List.length_cons,List.length_nil]
  omega
theorem A5Q {n k:Nat} (hk:k<n) {s:Z0}:∀ {c:Nat} {s':Z0},O1 k c s=some s'→tot n s'.es+s'.l.length≤tot n s.es+s.l.length
 | 0,s',h=>by cases h;exact Nat.le_refl _
 | c+1,s',h=>by
  unfold O1 at h
  obtain ⟨s1,h1,h2⟩:=Option.bind_eq_some_iff.1 h
  exact Nat.le_trans (B2w hk h2) (A5Q hk h1)
theorem A2s {n:Nat} {parts:List A2D} {s:Z0}:∀ {k:Nat} {s':Z0},k≤n→H1 parts k s=some s'→tot n s'.es+s'.l.length≤tot n s.es+s.l.length
 | 0,s',_,h=>by cases h;exact Nat.le_refl _
 | k+1,s',hk,h=>by
  unfold H1 at h
  obtain ⟨s1,h1,h2⟩:=Option.bind_eq_some_iff.1 h
  exact Nat.le_trans (A5Q (by omega) h2) (A2s (by omega) h1)
theorem A3Z {p:A8} (hp:A1W p) {s s':Z0} (h:H1 p.parts p.parts.length s=some s'):s.l.length<s'.l.length:=by
 have hn:=hp.n1
 obtain ⟨k,hk⟩:∃ k,p.parts.length=k+1:=⟨p.parts.length - 1,by omega⟩
 have hmono:∀ {k:Nat} {s':Z0},H1 p.parts k s=some s'→s.l.length≤s'.l.length:=fun {k}=>by
  induction k with
  | zero=>intro s' h;cases h;exact Nat.le_refl _
  | succ k ih =>
   intro s' h
   unfold H1 at h
   obtain ⟨s1,h1,h2⟩:=Option.bind_eq_some_iff.1 h
   have:=ih h1
   have:=W8 h2
   omega
 rw [hk] at h
 unfold H1 at h
 obtain ⟨s1,h1,h2⟩:=Option.bind_eq_some_iff.1 h
 have h3:=hmono h1
 have h4:=W8 h2
 have h5:=hp.at (show k<p.parts.length by omega)
 omega
structure O7 (u0:List Bool) (s:Z0):Prop where
 free:∀ x∈s.l,u0.getD x.toNat default=false
 nd:(s.l.map Int.toNat).Nodup
 used:∀ j,s.used.getD j default=true↔(u0.getD j default=true∨j∈s.l.map Int.toNat)
theorem O7.start (u0:List Bool) (es:Nat→List QE):O7 u0 ⟨u0,es,[]⟩:=⟨fun x hx=>by simp at hx,List.nodup_nil,fun j=>by simp⟩
theorem O7.take {us:List A6} {n:Nat} {u0:List Bool} {s s':Z0} (h:O7 u0 s) (hok:MOk us n s) {k:Nat} (hk:k<n) (ht:T4 k s=some s'):O7 u0 s':=by
 obtain ⟨_,t2,_,_⟩:=W7 s.used (s.es k)
 unfold T4 at ht
 split at ht
 ·cases ht
 ·rename_i i hi
  cases ht
  obtain ⟨e,he,rfl,hu⟩:=t2 i hi
  have hr:=hok.rng k hk e he
  have hfree:u0.getD e.2.toNat default=false∧e.2.toNat∉s.l.map Int.toNat:=by
   have:¬(u0.getD e.2.toNat default=true∨e.2.toNat∈s.l.map Int.toNat):=fun h2=>by
    rw [(h.used _).2 h2] at hu;cases hu
   exact ⟨Bool.eq_false_iff.2 fun h2=>this (.inl h2),fun h2=>this (.inr h2)⟩
  refine ⟨fun x hx=>?_,?_,fun j=>?_⟩
  ·rcases List.mem_append.1 hx with hx | hx
   ·exact h.free x hx
   ·rw [List.mem_singleton] at hx;rw [hx];exact hfree.1
  ·show ((s.l++[e.2]).map Int.toNat).Nodup
   rw [List.map_append]
   refine List.nodup_append.2 ⟨h.nd,by simp,fun a ha b hb=>?_⟩
   simp only [List.map_cons,List.map_nil,List.mem_singleton] at hb
   subst hb
   exact fun e'=>hfree.2 (e'▸ha)
  ·show (s.used.set e.2.toNat true).getD j default=true↔(u0.getD j default=true∨j∈(s.l++[e.2]).map Int.toNat)
   rw [List.map_append,List.mem_append,List.map_cons,List.map_nil,List.mem_singleton]
   by_cases ej:j=e.2.toNat
   ·subst ej
    have:e.2.toNat<s.used.length:=by rw [hok.len];exact hr.2
    simp [List.getD_eq_getElem?_getD,this]
   ·have:(s.used.set e.2.toNat true).getD j default=s.used.getD j default:=by
     simp only [List.getD_eq_getElem?_getD]
     rw [List.getElem?_set_ne (fun e'=>ej e'.symm)]
    rw [this,h.used j]
    constructor
    ·rintro (h1 | h1)
     ·exact .inl h1
     ·exact .inr (.inl h1)
    ·rintro (h1 | h1 | h1)
     ·exact .inl h1
     ·exact .inr h1
     ·exact absurd h1 ej
theorem O7.takes {us:List A6} {n:Nat} {u0:List Bool} {s:Z0} (h:O7 u0 s) (hok:MOk us n s) {k:Nat} (hk:k<n):∀ {c:Nat} {s':Z0},O1 k c s=some s'→O7 u0 s'
 | 0,s',e=>by cases e;exact h
 | c+1,s',e=>by
  unfold O1 at e
  obtain ⟨s1,h1,h2⟩:=Option.bind_eq_some_iff.1 e
  exact (O7.takes h hok hk h1).take (hok.takes hk h1) hk h2
theorem O7.parts {us:List A6} {p:A8} {u0:List Bool} {s:Z0} (h:O7 u0 s) (hok:MOk us p.parts.length s):∀ {k:Nat} {s':Z0},k≤p.parts.length→H1 p.parts k s=some s'→O7 u0 s'
 | 0,s',_,e=>by cases e;exact h
 | k+1,s',hk,e=>by
  unfold H1 at e
  obtain ⟨s1,h1,h2⟩:=Option.bind_eq_some_iff.1 e
  exact (O7.parts h hok (by omega) h1).takes (MOk.parts hok (by omega) h1) (by omega) h2
theorem A9k {us:List A6} (hu:C0 us) {l:List Int} (hm:Q9 us l):A2 (D7 us l)≤A2 (C8 us):=by
 have hl:(D7 us l).length=l.length:=by unfold D7;rw [List.length_map]
 have:=Y3 hu hm (offs:=D7 us l) (by omega) (fun k hk=>by
  have h2:gI (D7 us l) k=(gU us (gI l k).toNat).net:=E7 (fun i:Int=>(gU us i.toNat).net) l (by omega)
  rw [h2]
  exact ⟨hu.at0 _,Int.le_refl _⟩) (D7 us l).length (Nat.le_refl _)
 rw [List.take_length] at this
 have h1:=this.sum
 have h2:=B8 (this.ok hu).nets0
 omega
theorem B2a {us:List A6} {l:List Int} (hm:∀ x∈l,0≤x∧x.toNat<us.length) (hd:(l.map Int.toNat).Nodup):Q9 us l:=by
 refine ⟨fun k hk=>hm _ (A7 hk),fun i k hik hk e=>?_⟩
 have hi:(l.map Int.toNat)[i]'(by rw [List.length_map];omega)=(l.map Int.toNat)[k]'(by rw [List.length_map];omega):=by
  rw [List.getElem_map,List.getElem_map]
  have h1:gI l i=l[i]:=by simp [gI,show i<l.length by omega]
  have h2:gI l k=l[k]:=by simp [gI,hk]
  rw [←h1,←h2];exact e
 exact (List.pairwise_iff_getElem.1 hd i k _ _ hik) hi
structure BSt where
 out:List A6
 ms:Z0
 taken:List Int
 all:Int
def A1E (p:A8) (us:List A6) (b:BSt):Option BSt:=match H1 p.parts p.parts.length ⟨b.ms.used,b.ms.es,[]⟩ with
 | none=>none
 | some s=>if F6 us s.l>p.amount then some ⟨A1Y b.out (C4 s.l) (F6 us s.l - p.amount),s,b.taken++C4 s.l,b.all+(F6 us s.l - p.amount)⟩ else none
def A1U (p:A8) (us:List A6):Nat→BSt→BSt
 | 0,b=>b
 | m+1,b=>match A1E p us b with
  | none=>b
  | some b'=>A1U p us m b'
def D5 (us:List A6) (parts:List (List Int)):BSt:=⟨us,⟨List.replicate us.length false,fun k=>D4 us (parts.getD k []),[]⟩,[],0⟩
def N2 (p:A8) (us:List A6) (parts:List (List Int)):List A6×Int :=
 let b:=A1U p us (tot p.parts.length (D5 us parts).ms.es+1) (D5 us parts)
 (if p.closes=true then closeB b.out b.taken else b.out,b.all)
structure BOk (p:A8) (us:List A6) (D:Nat) (b:BSt):Prop where
 off:Y8 us b.out b.all
 same:∀ j,b.ms.used.getD j default=false→gU b.out j=gU us j
 ok:MOk us p.parts.length b.ms
 mem:∀ x∈b.taken,0≤x∧x.toNat<us.length
 len:b.taken.length+tot p.parts.length b.ms.es≤D
theorem A1Q {l:List Int} {x:Int}:x∈C4 l↔x∈l:=(A0E l).mem_iff
structure B7R (p:A8) (us:List A6) (b:BSt) (s:Z0):Prop where
 places:Q9 b.out (C4 s.l)
 weights:J8 (F6 us s.l - p.amount) (D7 b.out (C4 s.l))
 le:F6 us s.l - p.amount≤A2 (D7 b.out (C4 s.l))
theorem BOk.step {p:A8} (hp:A1W p) {us:List A6} (hu:C0 us) {D:Nat} {b:BSt} (h:BOk p us D b) {s:Z0} (hs:H1 p.parts p.parts.length ⟨b.ms.used,b.ms.es,[]⟩=some s) (hc:F6 us s.l>p.amount) :
  B7R p us b s∧BOk p us D ⟨A1Y b.out (C4 s.l) (F6 us s.l - p.amount),s,b.taken++C4 s.l,b.all+(F6 us s.l - p.amount)⟩∧tot p.parts.length s.es<tot p.parts.length b.ms.es:=by
 have hok0:MOk us p.parts.length ⟨b.ms.used,b.ms.es,[]⟩:=⟨h.ok.len,h.ok.rng,h.ok.srt,fun x hx=>by simp at hx⟩
 have hok:=MOk.parts hok0 (Nat.le_refl _) hs
 have htr:=O7.parts (O7.start b.ms.used b.ms.es) hok0 (Nat.le_refl _) hs
 have hlen:=A0B hp (Nat.le_refl _) hs
 have htot:=A2s (n:=p.parts.length) (Nat.le_refl _) hs
 have hpos:=A3Z hp hs
 simp only [List.length_nil] at hlen htot hpos
 have hn8:=hp.n8
 have ha:=hp.amt
 have hpl:Q9 b.out (C4 s.l):=B2a (fun x hx=>by rw [h.off.len];exact hok.mem x (A1Q.1 hx)) (((A0E s.l).map Int.toNat).nodup_iff.2 htr.nd)
 have hsame:∀ x∈s.l,(gU b.out x.toNat).net=(gU us x.toNat).net:=fun x hx=>by rw [h.same _ (htr.free x hx)]
 have hw:A2 (D7 b.out (C4 s.l))=F6 us s.l:=by
  unfold D7 F6
  rw [A6X ((A0E s.l).map fun i=>(gU b.out i.toNat).net)]
  congr 1
  exact List.map_congr_left fun x hx=>hsame x hx
 have hou:=h.off.ok hu
 have hwl:=A9k hou hpl
 have hos:=hou.sum
 have hcb:=X2 hu s.l hok.mem
 have hW:J8 (F6 us s.l - p.amount) (D7 b.out (C4 s.l)):=by
  refine ⟨by omega,by omega,?_,fun w hw=>?_,by omega,fun e=>by omega⟩
  ·unfold D7;rw [List.length_map,M2];omega
  ·obtain ⟨i,hi,rfl⟩:=List.mem_map.1 hw;exact hou.at0 _
 have hL:=B1N hou hpl hW (by omega)
 refine ⟨⟨hpl,hW,by omega⟩,⟨h.off.trans hL,fun j hj=>?_,hok,fun x hx=>?_,?_⟩,by omega⟩
 ·have hnot:¬(b.ms.used.getD j default=true∨j∈s.l.map Int.toNat):=fun h2=>by
   rw [(htr.used j).2 h2] at hj;cases hj
  have hju:b.ms.used.getD j default=false:=Bool.eq_false_iff.2 fun h2=>hnot (.inl h2)
  rw [←h.same j hju]
  by_cases hjl:j<b.out.length
  ·exact A0F hpl _ (Nat.le_refl _) j hjl fun i hi e=>hnot (.inr (by
    have:gI (C4 s.l) i∈s.l:=A1Q.1 (A7 hi)
    rw [e];exact List.mem_map_of_mem this))
  ·have e1:gU b.out j=default:=by unfold gU;rw [List.getD_eq_getElem?_getD,List.getElem?_eq_none (by omega)];rfl
   have e2:gU (A1Y b.out (C4 s.l) (F6 us s.l - p.amount)) j=default:=by
    unfold gU;rw [List.getD_eq_getElem?_getD,List.getElem?_eq_none (by rw [hL.len];omega)];rfl
   rw [e1];exact e2
 ·rcases List.mem_append.1 hx with hx | hx
  ·exact h.mem x hx
  ·exact hok.mem x (A1Q.1 hx)
 ·rw [List.length_append,M2]
  have:=h.len
  show _+tot p.parts.length s.es≤D
  omega
theorem B0A {p:A8} (hp:A1W p) {us:List A6} (hu:C0 us) {D:Nat}:∀ (m:Nat) {b:BSt},BOk p us D b→BOk p us D (A1U p us m b)
 | 0,b,h=>h
 | m+1,b,h=>by
  unfold A1U A1E
  cases hs:H1 p.parts p.parts.length ⟨b.ms.used,b.ms.es,[]⟩ with
  | none=>exact h
  | some s =>
   simp only
   by_cases hc:F6 us s.l>p.amount
   ·rw [if_pos hc]
    exact B0A hp hu m (h.step hp hu hs hc).2.1
   ·rw [if_neg hc];exact h
theorem A3U {p:A8} {us:List A6} (hu:C0 us) {parts:List (List Int)} (hl:parts.length=p.parts.length) (hm:∀ k,k<parts.length→I7 us (parts.getD k [])):BOk p us (tot p.parts.length (D5 us parts).ms.es) (D5 us parts):=by
 refine ⟨Y8.refl hu,fun j hj=>rfl,⟨by simp [D5],fun k hk e he=>A3v (hm k (by omega)).rng he,fun k hk=>A3c _,fun x hx=>by simp [D5] at hx⟩,fun x hx=>by simp [D5] at hx,?_⟩
 show 0+_≤_
 omega
theorem A8o {p:A8} (hp:A1W p) {us:List A6} (hu:C0 us) {parts:List (List Int)} (hl:parts.length=p.parts.length) (hm:∀ k,k<parts.length→I7 us (parts.getD k [])):Y8 us (N2 p us parts).1 (N2 p us parts).2:=by
 have h:=B0A hp hu (tot p.parts.length (D5 us parts).ms.es+1) (A3U hu hl hm)
 unfold N2
 simp only
 split
 ·have h2:=Y8.closeB (h.off.ok hu) (A1U p us (tot p.parts.length (D5 us parts).ms.es+1) (D5 us parts)).taken (fun x hx=>by rw [h.off.len];exact (h.mem x hx).2)
  have h3:=h.off.trans h2
  rw [Int.add_zero] at h3;exact h3
 ·exact h.off
end Go.Proofs.YtbajhapmlfbelaaGreat
namespace Go.Proofs.YtbajhapmlfbelaaGreat
open Go Go.Ab
attribute [local irreducible] upd del
theorem A9K (l:List (List Int)) (hl:l.length≤9223372036854775807) (g:FuncId) (cs:List AV) (p:(List Int)→Bool) (st:St)
  (hg:∀ x,x∈l→S P g (B2 x::cs) st fun v st'=>v=.bool (p x)∧st'=st) :
  S P 346 [A5 1 B2 l,.fn (.func g) [] cs] st fun v st'=>v=eI (idx p l)∧st'=st:=by
 refine E3 [] Tryz.func346 ?_
 refine ⟨[0,1,7,8],fun m vs st'=>∃ i:Nat,i≤l.length∧(∀ k,k<i→p (l.getD k default)=false)∧m=l.length - i∧vs=[A5 1 B2 l,.fn (.func g) [] cs,eI l.length,eI i]∧st'=st,?_,?_⟩
 ·conv=>whnf
  exact ⟨_,0,Nat.zero_le _,fun k hk=>absurd hk (by omega),rfl,rfl,rfl⟩
 ·rintro m vs st' ⟨i,hi,hok,rfl,rfl,rfl⟩
  conv=>whnf
  cases h:decide ((i:Int)<(l.length:Int))
  ·have:=of_decide_eq_false h
   conv=>whnf
   refine ⟨?_,rfl⟩
   rw [J0 fun k hk=>hok k (by omega)];rfl
  ·have hi':i<l.length:=by have:=of_decide_eq_true h;omega
   conv=>whnf
   refine G9 ?_
   refine C1 (hg (l.getD (i:Int).toNat default) (by simp [hi'])) ?_
   rw [Int.toNat_natCast]
   cases hp:p (l.getD i default)
   ·conv=>whnf
    refine H4 ?_
    refine ⟨l.length - (i+1),by omega,i+1,by omega,fun k hk=>?_,rfl,by rw [B7 (by omega)],rfl⟩
    rcases Nat.lt_succ_iff_lt_or_eq.1 hk with h' | h'
    ·exact hok k h'
    ·rw [h'];exact hp
   ·conv=>whnf
    refine ⟨?_,rfl⟩
    rw [R6 hi' hok hp];rfl
theorem B3D (l:List (List Int)) (hl:l.length≤9223372036854775807) (g:FuncId) (cs:List AV) (p:(List Int)→Bool) (st:St)
  (hg:∀ x,x∈l→S P g (B2 x::cs) st fun v st'=>v=.bool (p x)∧st'=st) :
  S P 333 [A5 1 B2 l,.fn (.func g) [] cs] st fun v st'=>v=.bool (l.any p)∧st'=st:=by
 refine E3 [] Tryz.func333 ?_
 refine H9 (A9K l hl g cs p st hg) ?_
 refine ⟨?_,rfl⟩
 rw [←S3];rfl
theorem B3L (us:List A6) (mine:List Int) (h:C0 us) (hm:I7 us mine) (st:St):S P 334 [B2 mine,.fptr (B9 us) 0] st fun v st'=>v=.bool false∧st'=st:=by
 refine E3 [] Tryz.func334 ?_
 refine H9 (A4Y us mine h hm st) ?_
 exact ⟨rfl,rfl⟩
theorem B6Q (p:A8) (us:List A6) (parts:List (List Int)) (hfit:I9 p) (hright:I2 p=true) (hk:p.kind=4) (hu:C0 us) (hl:parts.length=p.parts.length) (hl8:parts.length≤8) (hm:∀ x∈parts,I7 us x) (st:St) :
  S P 295 [B6 p,B9 us,A5 1 B2 parts] st fun v st'=>v=.bool true∧st'=st:=by
 refine E3 [3,4] Tryz.func295 ?_
 rw [hk];conv=>whnf
 refine C1 (A4G p hfit st) ?_
 rw [hright];conv=>whnf
 rw [hl]
 have e:((p.parts.length:Int) != (p.parts.length:Int))=false:=by simp
 rw [e];conv=>whnf
 refine H9 (B3D parts (by omega) _ [.fptr (B9 us) 0] (fun _=>false) st fun x hx=>B3L us x hu (hm x hx) st) ?_
 refine ⟨?_,rfl⟩
 have:(parts.any fun _=>false)=false:=by simp
 rw [this];rfl
end Go.Proofs.YtbajhapmlfbelaaGreat
