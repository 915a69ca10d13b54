/- Part 23 of the proof: contracts of the functions that the law reaches -/
import Derived.Test.YtbajhapmlfbelaaGreatPr22
set_option maxRecDepth 100000
set_option linter.unusedVariables false
set_option linter.unusedSimpArgs false
namespace Go.Proofs.YtbajhapmlfbelaaGreat
open Go Go.Ab
attribute [local irreducible] upd del
theorem A1g {st:St} {b c:Nat} (h:c≠b):del st b c=st c:=by unfold del;rw [if_neg h]
theorem A2G (st:St) (b:Nat):del st b b=none:=by unfold del;rw [if_pos rfl]
theorem G3.drop {s t:St} {b:Nat} {y:Q3} (h:G3 (upd s b y) t) (hb:s b=none):G3 s t:=fun c x hc=>by
 have hne:c≠b:=fun e=>by subst e;rw [hb] at hc;cases hc
 exact h c x (by rw [B1 hne];exact hc)
structure J5 (R:St→St→Prop):Prop where
 sup:∀ {s t:St},R s t→G3 s t
 begin:∀ {s t:St} {b:Nat} {y:Q3},R s t→t b=none→R (upd s b y) (upd t b y)
 grow:∀ {s t:St} {b b':Nat} {y y':Q3},R (upd s b y) t→s b=none→(b'=b∨t b'=none)→s b'=none∧R (upd s b' y') (upd (del t b) b' y')
 write:∀ {s t:St} {b:Nat} {y y':Q3},R s t→s b=some y→R (upd s b y') (upd t b y')
 forget:∀ {s t:St} {b:Nat} {y:Q3},R (upd s b y) t→s b=none→R s (del t b)
 drop:∀ {s t:St} {b:Nat} {y:Q3},R (upd s b y) t→s b=none→R s t
theorem QSt.drop {st0 st:St} {q b:Nat} {f:Bool} {es:List QE} {y:Q3} (h:QSt (upd st0 b y) q f es st) (hb:st0 b=none):QSt st0 q f es st:=by
 obtain ⟨h1,h2,sv,hq,h3⟩:=h
 have hqb:q≠b:=fun e=>by subst e;rw [A0] at h1;cases h1
 refine ⟨by rw [B1 hqb] at h1;exact h1,G3.drop h2 hb,sv,hq,?_⟩
 rcases h3 with h3 | ⟨c,l,n,a1,a2,a3,a4,a5,a6,a7,a8,a9⟩
 ·exact .inl h3
 ·have hcb:c≠b:=fun e=>by subst e;rw [A0] at a2;cases a2
  rw [B1 hcb] at a2
  exact .inr ⟨c,l,n,a1,a2,a3,a4,a5,a6,a7,a8,a9⟩
def A0T (b:Nat) (Q:Q3→Prop) (R:St→St→Prop) (s t:St):Prop:=s b=none∧∃ y,Q y∧R (upd s b y) t
theorem A1Z {b:Nat} {Q:Q3→Prop} {R:St→St→Prop} (hR:J5 R):J5 (A0T b Q R) where
 sup:=fun ⟨h1,y,h2,h3⟩=>G3.drop (hR.sup h3) h1
 begin:=fun {s t c z} ⟨h1,y,h2,h3⟩ hc=>by
  have hbc:b≠c:=fun e=>by subst e;rw [hR.sup h3 b y (A0 ..)] at hc;cases hc
  refine ⟨by rw [B1 hbc];exact h1,y,h2,?_⟩
  rw [O6 hbc.symm];exact hR.begin h3 hc
 grow:=fun {s t c c' z z'} ⟨h1,y,h2,h3⟩ h0 hc=>by
  have hbc:b≠c:=fun e=>by subst e;rw [A0] at h1;cases h1
  rw [B1 hbc] at h1
  have hty:t b=some y:=hR.sup h3 b y (A0 ..)
  have hbc':b≠c':=fun e=>by
   subst e
   rcases hc with e | e
   ·exact hbc e
   ·rw [hty] at e;cases e
  rw [O6 hbc.symm] at h3
  obtain ⟨g1,g2⟩:=hR.grow (y':=z') h3 (by rw [B1 hbc.symm];exact h0) hc
  rw [B1 hbc'.symm] at g1
  exact ⟨g1,by rw [B1 hbc'];exact h1,y,h2,by rw [O6 hbc'.symm];exact g2⟩
 write:=fun {s t c z z'} ⟨h1,y,h2,h3⟩ hc=>by
  have hbc:b≠c:=fun e=>by subst e;rw [h1] at hc;cases hc
  refine ⟨by rw [B1 hbc];exact h1,y,h2,?_⟩
  rw [O6 hbc.symm];exact hR.write h3 (by rw [B1 hbc.symm];exact hc)
 forget:=fun {s t c z} ⟨h1,y,h2,h3⟩ h0=>by
  have hbc:b≠c:=fun e=>by subst e;rw [A0] at h1;cases h1
  rw [B1 hbc] at h1
  rw [O6 hbc.symm] at h3
  exact ⟨h1,y,h2,hR.forget h3 (by rw [B1 hbc.symm];exact h0)⟩
 drop:=fun {s t c z} ⟨h1,y,h2,h3⟩ h0=>by
  have hbc:b≠c:=fun e=>by subst e;rw [A0] at h1;cases h1
  rw [B1 hbc] at h1
  rw [O6 hbc.symm] at h3
  exact ⟨h1,y,h2,hR.drop h3 (by rw [B1 hbc.symm];exact h0)⟩
theorem A0T.at {b:Nat} {Q:Q3→Prop} {R:St→St→Prop} (hR:J5 R) {s t:St} (h:A0T b Q R s t):∃ y,Q y∧t b=some y:=by
 obtain ⟨h1,y,h2,h3⟩:=h
 exact ⟨y,h2,hR.sup h3 b y (A0 ..)⟩
theorem A0T.map {b:Nat} {Q:Q3→Prop} {R R':St→St→Prop} {s t t':St} (h:A0T b Q R s t) (hm:∀ s,R s t→R' s t'):A0T b Q R' s t':=by
 obtain ⟨h1,y,h2,h3⟩:=h
 exact ⟨h1,y,h2,hm _ h3⟩
theorem A0T.set {b:Nat} {Q Q':Q3→Prop} {R:St→St→Prop} (hR:J5 R) {s t:St} (h:A0T b Q R s t) {y':Q3} (hy:Q' y'):A0T b Q' R s (upd t b y'):=by
 obtain ⟨h1,y,h2,h3⟩:=h
 have:=hR.write (y':=y') h3 (A0 ..)
 rw [C5] at this
 exact ⟨h1,y',hy,this⟩
def A1e (q:Nat) (bo:Option Nat) (c:Nat):Prop:=c=q∨bo=some c
structure QF (q:Nat) (bo:Option Nat) (f:Bool) (es:List QE) (st:St):Prop where
 has:∃ sv,A2X st q sv∧((es=[]∧sv=.emp∧bo=none)∨∃ b l n,bo=some b∧q≠b∧sv=.own 2 b 0 n∧n≤l.length∧l.length<2305843009213∧A3O l n∧A1C st b l∧(l.take n).Perm es∧(f=true→n=l.length))
theorem QF.frame {q:Nat} {bo:Option Nat} {f:Bool} {es:List QE} {st st':St} (h:QF q bo f es st) (hf:∀ c,A1e q bo c→st' c=st c):QF q bo f es st':=by
 obtain ⟨sv,⟨fq,hqs,hq0⟩,h3⟩:=h.has
 refine ⟨sv,⟨fq,by rw [hf q (.inl rfl)];exact hqs,hq0⟩,?_⟩
 rcases h3 with h3 | ⟨b,l,n,a0,a1,a3,a4,a5,a6,⟨fe,hes,hef⟩,a8,a9⟩
 ·exact .inl h3
 ·exact .inr ⟨b,l,n,a0,a1,a3,a4,a5,a6,⟨fe,by rw [hf b (.inr a0)];exact hes,hef⟩,a8,a9⟩
theorem QF.some {q:Nat} {bo:Option Nat} {f:Bool} {es:List QE} {st:St} (h:QF q bo f es st) {c:Nat} (hc:A1e q bo c):∃ x,st c=.some x:=by
 obtain ⟨sv,⟨fq,hqs,hq0⟩,h3⟩:=h.has
 rcases hc with rfl | hc
 ·exact ⟨_,hqs⟩
 ·rcases h3 with ⟨_,_,h4⟩ | ⟨b,l,n,a0,a1,a3,a4,a5,a6,⟨fe,hes,hef⟩,a8,a9⟩
  ·rw [h4] at hc;cases hc
  ·rw [a0] at hc;cases hc;exact ⟨_,hes⟩
theorem QSt.foot {s t:St} {q:Nat} {f:Bool} {es:List QE} (h:QSt s q f es t):∃ bo,QF q bo f es t∧∀ c,A1e q bo c→s c=none:=by
 obtain ⟨h1,h2,sv,hq,h3⟩:=h
 rcases h3 with ⟨h3,h4⟩ | ⟨b,l,n,a1,a2,a3,a4,a5,a6,a7,a8,a9⟩
 ·exact ⟨none,⟨sv,hq,.inl ⟨h3,h4,rfl⟩⟩,fun c hc=>by
   rcases hc with rfl | hc
   ·exact h1
   ·cases hc⟩
 ·exact ⟨.some b,⟨sv,hq,.inr ⟨b,l,n,rfl,a1,a3,a4,a5,a6,a7,a8,a9⟩⟩,fun c hc=>by
   rcases hc with rfl | hc
   ·exact h1
   ·cases hc;exact a2⟩
theorem QF.qst {s t:St} {q:Nat} {bo:Option Nat} {f:Bool} {es:List QE} (h:QF q bo f es t) (hs:G3 s t) (hn:∀ c,A1e q bo c→s c=none):QSt s q f es t:=by
 obtain ⟨sv,hq,h3⟩:=h.has
 refine ⟨hn q (.inl rfl),hs,sv,hq,?_⟩
 rcases h3 with ⟨h3,h4,_⟩ | ⟨b,l,n,a0,a1,a3,a4,a5,a6,a7,a8,a9⟩
 ·exact .inl ⟨h3,h4⟩
 ·exact .inr ⟨b,l,n,a1,hn b (.inr a0),a3,a4,a5,a6,a7,a8,a9⟩
structure QsA (s:St) (n:Nat) (q:Nat→Nat) (bo:Nat→Option Nat) (f:Nat→Bool) (es:Nat→List QE) (t:St):Prop where
 sup:G3 s t
 new:∀ i,i<n→∀ c,A1e (q i) (bo i) c→s c=none
 has:∀ i,i<n→QF (q i) (bo i) (f i) (es i) t
 dis:∀ i j,i<n→j<n→i≠j→∀ c,A1e (q i) (bo i) c→¬ A1e (q j) (bo j) c
def Qs (n:Nat) (q:Nat→Nat) (es:Nat→List QE) (s t:St):Prop:=∃ bo f,QsA s n q bo f es t
theorem QsA.off {s t:St} {n:Nat} {q:Nat→Nat} {bo:Nat→Option Nat} {f:Nat→Bool} {es:Nat→List QE} (h:QsA s n q bo f es t) {b:Nat} {y:Q3} (hb:s b=some y) {i:Nat} (hi:i<n) {c:Nat} (hc:A1e (q i) (bo i) c):c≠b:=fun e=>by
 subst e;rw [h.new i hi c hc] at hb;cases hb
theorem A1H (n:Nat) (q:Nat→Nat) (es:Nat→List QE):J5 (Qs n q es) where
 sup:=fun ⟨bo,f,h⟩=>h.sup
 begin:=fun {s t b y} ⟨bo,f,h⟩ hb=>by
  have hne:∀ i,i<n→∀ c,A1e (q i) (bo i) c→c≠b:=fun i hi c hc e=>by
   subst e
   obtain ⟨x,hx⟩:=(h.has i hi).some hc
   rw [hx] at hb;cases hb
  exact ⟨bo,f,fun c x hc=>by
    by_cases e:c=b
    ·subst e;rw [A0] at hc ⊢;exact hc
    ·rw [B1 e] at hc ⊢;exact h.sup c x hc,
   fun i hi c hc=>by rw [B1 (hne i hi c hc)];exact h.new i hi c hc,
   fun i hi=>(h.has i hi).frame fun c hc=>B1 (hne i hi c hc),h.dis⟩
 grow:=fun {s t b b' y y'} ⟨bo,f,h⟩ h0 hb=>by
  have hne:∀ i,i<n→∀ c,A1e (q i) (bo i) c→c≠b:=fun i hi c hc=>h.off (A0 ..) hi hc
  have hne':∀ i,i<n→∀ c,A1e (q i) (bo i) c→c≠b':=fun i hi c hc e=>by
   subst e
   rcases hb with e | e
   ·exact hne i hi c hc e
   ·obtain ⟨x,hx⟩:=(h.has i hi).some hc
    rw [hx] at e;cases e
  have hsub:∀ c x,s c=some x→c≠b∧t c=some x:=fun c x hc=>by
   have hne:c≠b:=fun e=>by subst e;rw [h0] at hc;cases hc
   exact ⟨hne,h.sup c x (by rw [B1 hne];exact hc)⟩
  have hb':s b'=none:=by
   rcases hb with e | e
   ·rw [e];exact h0
   ·cases hx:s b' with
    | none=>rfl
    | some x=>rw [(hsub _ _ hx).2] at e;cases e
  refine ⟨hb',bo,f,fun c x hc=>?_,fun i hi c hc=>?_,fun i hi=>(h.has i hi).frame fun c hc=>?_,h.dis⟩
  ·by_cases e:c=b'
   ·subst e;rw [A0] at hc ⊢;exact hc
   ·rw [B1 e] at hc ⊢
    rw [A1g (hsub c x hc).1];exact (hsub c x hc).2
  ·have:=h.new i hi c hc
   rw [B1 (hne i hi c hc)] at this
   rw [B1 (hne' i hi c hc)];exact this
  ·rw [B1 (hne' i hi c hc),A1g (hne i hi c hc)]
 write:=fun {s t b y y'} ⟨bo,f,h⟩ hb=>by
  have hne:∀ i,i<n→∀ c,A1e (q i) (bo i) c→c≠b:=fun i hi c hc=>h.off hb hi hc
  exact ⟨bo,f,G3.write (y:=y) h.sup,fun i hi c hc=>by rw [B1 (hne i hi c hc)];exact h.new i hi c hc,
   fun i hi=>(h.has i hi).frame fun c hc=>B1 (hne i hi c hc),h.dis⟩
 forget:=fun {s t b y} ⟨bo,f,h⟩ h0=>by
  have hne:∀ i,i<n→∀ c,A1e (q i) (bo i) c→c≠b:=fun i hi c hc=>h.off (A0 ..) hi hc
  refine ⟨bo,f,fun c x hc=>?_,fun i hi c hc=>?_,fun i hi=>(h.has i hi).frame fun c hc=>?_,h.dis⟩
  ·have e:c≠b:=fun e=>by subst e;rw [h0] at hc;cases hc
   rw [A1g e];exact h.sup c x (by rw [B1 e];exact hc)
  ·have:=h.new i hi c hc
   rw [B1 (hne i hi c hc)] at this;exact this
  ·exact A1g (hne i hi c hc)
 drop:=fun {s t b y} ⟨bo,f,h⟩ h0=>by
  have hne:∀ i,i<n→∀ c,A1e (q i) (bo i) c→c≠b:=fun i hi c hc=>h.off (A0 ..) hi hc
  refine ⟨bo,f,G3.drop h.sup h0,fun i hi c hc=>?_,h.has,h.dis⟩
  have:=h.new i hi c hc
  rw [B1 (hne i hi c hc)] at this;exact this
theorem Qs.nil {s t:St} (h:G3 s t) {q:Nat→Nat} {es:Nat→List QE}:Qs 0 q es s t:=⟨fun _=>none,fun _=>true,h,fun i hi=>by omega,fun i hi=>by omega,fun i j hi=>by omega⟩
theorem Qs.congr {n:Nat} {q q':Nat→Nat} {es es':Nat→List QE} {s t:St} (h:Qs n q es s t) (hq:∀ i,i<n→q' i=q i) (he:∀ i,i<n→es' i=es i):Qs n q' es' s t:=by
 obtain ⟨bo,f,h⟩:=h
 exact ⟨bo,f,h.sup,fun i hi=>by rw [hq i hi];exact h.new i hi,fun i hi=>by rw [hq i hi,he i hi];exact h.has i hi,fun i j hi hj=>by rw [hq i hi,hq j hj];exact h.dis i j hi hj⟩
def U6 {α : Type} (f:Nat→α) (i:Nat) (v : α) (k:Nat) : α:=if k=i then v else f k
theorem F5 {α : Type} (f:Nat→α) (i:Nat) (v : α):U6 f i v i=v:=by simp [U6]
theorem J2 {α : Type} {f:Nat→α} {i k:Nat} {v : α} (h:k≠i):U6 f i v k=f k:=by simp [U6,h]
theorem Qs.add {n:Nat} {q:Nat→Nat} {es:Nat→List QE} {s t t':St} {q':Nat} {f':Bool} {es':List QE} (h:Qs n q es s t) (h':QSt t q' f' es' t'):Qs (n+1) (U6 q n q') (U6 es n es') s t':=by
 obtain ⟨bo,f,h⟩:=h
 obtain ⟨bo',g1,g2⟩:=h'.foot
 have hne:∀ i,i<n→∀ c,A1e (q i) (bo i) c→¬ A1e q' bo' c:=fun i hi c hc hc'=>by
  obtain ⟨x,hx⟩:=(h.has i hi).some hc
  rw [g2 c hc'] at hx;cases hx
 refine ⟨U6 bo n bo',U6 f n f',h.sup.trans h'.sup,fun i hi c hc=>?_,fun i hi=>?_,fun i j hi hj hij c hc=>?_⟩
 ·by_cases e:i=n
  ·subst e;rw [F5,F5] at hc;exact h.sup.none (g2 c hc)
  ·rw [J2 e,J2 e] at hc;exact h.new i (by omega) c hc
 ·by_cases e:i=n
  ·subst e;rw [F5,F5,F5,F5];exact g1
  ·rw [J2 e,J2 e,J2 e,J2 e]
   refine (h.has i (by omega)).frame fun c hc=>?_
   obtain ⟨x,hx⟩:=(h.has i (by omega)).some hc
   rw [hx,h'.sup c x hx]
 ·by_cases e:i=n
  ·subst e
   rw [F5,F5] at hc
   rw [J2 hij.symm,J2 hij.symm]
   exact fun hc'=>hne j (by omega) c hc' hc
  ·rw [J2 e,J2 e] at hc
   by_cases e2:j=n
   ·subst e2;rw [F5,F5];exact hne i (by omega) c hc
   ·rw [J2 e2,J2 e2];exact h.dis i j (by omega) (by omega) hij c hc
theorem Qs.turn {n:Nat} {q:Nat→Nat} {es:Nat→List QE} {s t:St} (h:Qs n q es s t) {k:Nat} (hk:k<n) :
  ∃ s1 f,G3 s s1∧QSt s1 (q k) f (es k) t∧∀ f' es' t',QSt s1 (q k) f' es' t'→Qs n q (U6 es k es') s t':=by
 obtain ⟨bo,f,h⟩:=h
 have hdec:∀ c,Decidable (A1e (q k) (bo k) c):=fun c=>inferInstanceAs (Decidable (_∨_))
 let s1:St:=fun c=>match hdec c with | isTrue _=>none | isFalse _=>t c
 have s1t:∀ c,A1e (q k) (bo k) c→s1 c=none:=fun c hc=>by
  show (match hdec c with | isTrue _=>none | isFalse _=>t c)=none
  cases hdec c with
  | isTrue _=>rfl
  | isFalse hn=>exact absurd hc hn
 have s1f:∀ c,¬ A1e (q k) (bo k) c→s1 c=t c:=fun c hc=>by
  show (match hdec c with | isTrue _=>none | isFalse _=>t c)=t c
  cases hdec c with
  | isTrue hn=>exact absurd hn hc
  | isFalse _=>rfl
 have s1s:G3 s1 t:=fun c x hc=>by
  by_cases e:A1e (q k) (bo k) c
  ·rw [s1t c e] at hc;cases hc
  ·rw [s1f c e] at hc;exact hc
 refine ⟨s1,f k,fun c x hc=>?_,(h.has k hk).qst s1s s1t,fun f' es' t' hq=>?_⟩
 ·have:¬ A1e (q k) (bo k) c:=fun e=>by rw [h.new k hk c e] at hc;cases hc
  rw [s1f c this];exact h.sup c x hc
 obtain ⟨bo',g1,g2⟩:=hq.foot
 have hfr:∀ c x,¬ A1e (q k) (bo k) c→t c=some x→t' c=some x:=fun c x hc hx=>hq.sup c x (by rw [s1f c hc];exact hx)
 have hne:∀ i,i<n→i≠k→∀ c,A1e (q i) (bo i) c→¬ A1e (q k) bo' c:=fun i hi hik c hc hc'=>by
  obtain ⟨x,hx⟩:=(h.has i hi).some hc
  have:=g2 c hc'
  rw [s1f c (h.dis i k hi hk hik c hc),hx] at this;cases this
 refine ⟨U6 bo k bo',U6 f k f',fun c x hc=>?_,fun i hi c hc=>?_,fun i hi=>?_,fun i j hi hj hij c hc=>?_⟩
 ·exact hfr c x (fun e=>by rw [h.new k hk c e] at hc;cases hc) (h.sup c x hc)
 ·by_cases e:i=k
  ·subst e
   rw [F5] at hc
   by_cases e2:A1e (q i) (bo i) c
   ·exact h.new i hi c e2
   ·have:=g2 c hc
    rw [s1f c e2] at this;exact h.sup.none this
  ·rw [J2 e] at hc;exact h.new i hi c hc
 ·by_cases e:i=k
  ·subst e;rw [F5,F5,F5];exact g1
  ·rw [J2 e,J2 e,J2 e]
   refine (h.has i hi).frame fun c hc=>?_
   obtain ⟨x,hx⟩:=(h.has i hi).some hc
   rw [hx,hfr c x (h.dis i k hi hk e c hc) hx]
 ·by_cases e:i=k
  ·subst e
   rw [F5] at hc
   rw [J2 hij.symm]
   exact fun hc'=>hne j hj hij.symm c hc' hc
  ·rw [J2 e] at hc
   by_cases e2:j=k
   ·subst e2;rw [F5];exact hne i hi hij c hc
   ·rw [J2 e2];exact h.dis i j hi hj hij c hc
theorem Qs.pop_S {n:Nat} {q:Nat→Nat} {es:Nat→List QE} {s t:St} (h:Qs n q es s t) {k:Nat} (hk:k<n) {x:QE} {rest:List QE} (he:es k=x::rest) (htop:∀ y∈rest,H0 y x=false) :
  S P 149 [.optr 1 (q k) 0 0] t fun v t'=>v=.tuple [eI x.1,eI x.2,.bool true]∧Qs n q (U6 es k rest) s t':=by
 obtain ⟨s1,f,_,hq,hb⟩:=h.turn hk
 rw [he] at hq
 exact (A8Y s1 (q k) f x rest t hq htop).mono fun v t' hv=>⟨hv.1,hb _ _ _ hv.2⟩
theorem Qs.pop0_S {n:Nat} {q:Nat→Nat} {es:Nat→List QE} {s t:St} (h:Qs n q es s t) {k:Nat} (hk:k<n) (he:es k=[]) :
  S P 149 [.optr 1 (q k) 0 0] t fun v t'=>v=.tuple [eI 0,eI 0,.bool false]∧t'=t:=by
 obtain ⟨s1,f,_,hq,hb⟩:=h.turn hk
 rw [he] at hq
 exact C1a s1 (q k) f t hq
def ROut (R:St→St→Prop) (ty e:Nat) (fo:Nat→AV) (n:Nat) (s:St) (sv:AV) (t:St):Prop:=∃ s0,N1 ty e fo s n sv s0∧R s0 t
section
variable {R:St→St→Prop} {ty e n:Nat} {fo:Nat→AV} {s t:St} {sv:AV}
theorem ROut.start (h:R s t) (ty e:Nat) (fo:Nat→AV):ROut R ty e fo 0 s .emp t:=⟨s,N1.start _ _ _ _,h⟩
theorem ROut.map {R':St→St→Prop} {t':St} (h:ROut R ty e fo n s sv t) (hm:∀ s,R s t→R' s t'):ROut R' ty e fo n s sv t':=by
 obtain ⟨s0,h1,h2⟩:=h
 exact ⟨s0,h1,hm _ h2⟩
theorem ROut.congr {fo':Nat→AV} (h:ROut R ty e fo n s sv t) (hf:∀ k,k<n→fo k=fo' k):ROut R ty e fo' n s sv t:=by
 obtain ⟨s0,h1,h2⟩:=h
 exact ⟨s0,N1.congr h1 hf,h2⟩
theorem ROut.head (h:ROut R ty e fo n s sv t):sv=.emp∨∃ b,sv=.own e b 0 n:=by
 obtain ⟨s0,⟨_,h1,_⟩ | ⟨_,b,_,_,h1,_⟩,h2⟩:=h
 ·exact .inl h1
 ·exact .inr ⟨b,h1⟩
theorem ROut.apps {T:F9} {tt:TypeId} {x:AV} {k:KK} {r q:D2} {el m:Nat} {f g:Nat→AV} (hR:J5 R) (hr:T tt=some r) (hd:r.desc=.slice el) (hq:T el=some q)
  (hz:(Nat.blt 0 q.size&&Nat.blt 0 q.bytes&&Nat.beq q.zero.cells.size q.size)=true) (hs:V9 q.size t x=some (m,g)) (hg:∀ i,i<m→g i=f (n+i)) (hb:(n+m) * q.bytes≤140737488355328)
  (hc:ROut R el q.size f n s sv t) (hk:∀ sv' t',ROut R el q.size f (n+m) s sv' t'→k sv' t'):A4w T tt sv x t k:=by
 obtain ⟨s0,hc,h⟩:=hc
 rcases hc with ⟨rfl,rfl,rfl⟩ | ⟨h0,bo,y,h1,rfl,rfl,h4⟩
 ·refine apE hr hd hq hz hs (by simpa using hb) (fun h0=>hk _ _ ⟨s0,.inl ⟨by omega,rfl,rfl⟩,h⟩) (fun hm b hb=>?_)
  refine hk _ _ ⟨_,?_,hR.begin (y:=⟨el,q.size,m,g⟩) h hb⟩
  rw [Nat.zero_add]
  exact .inr ⟨hm,b,g,(hR.sup h).none hb,rfl,rfl,fun k hk=>by have:=hg k hk;rwa [Nat.zero_add] at this⟩
 ·have hby:t bo=some ⟨el,q.size,n,y⟩:=hR.sup h bo _ (A0 ..)
  refine apO hr hd hq hz hs hby rfl rfl rfl hb (fun h0'=>hk _ _ ?_) (fun _ b' hb'=>?_)
  ·subst h0';exact ⟨_,.inr ⟨h0,bo,y,h1,rfl,rfl,h4⟩,h⟩
  obtain ⟨hb0,hn⟩:=hR.grow (y':=⟨el,q.size,n+m,fun i=>if i<n then y i else g (i - n)⟩) h h1 hb'
  refine hk _ _ ⟨_,.inr ⟨by omega,b',_,hb0,rfl,rfl,fun k hk=>?_⟩,hn⟩
  by_cases hkn:k<n
  ·simp only [hkn,if_true];exact h4 k hkn
  ·simp only [hkn,if_false]
   rw [hg (k - n) (by omega)];congr 1;omega
theorem ROut.app {T:F9} {tt:TypeId} {x:AV} {k:KK} {r q:D2} {el:Nat} {f g:Nat→AV} (hR:J5 R) (hr:T tt=some r) (hd:r.desc=.slice el) (hq:T el=some q)
  (hz:(Nat.blt 0 q.size&&Nat.blt 0 q.bytes&&Nat.beq q.zero.cells.size q.size)=true) (hs:V9 q.size t x=some (1,g)) (hg:g 0=f n) (hb:(n+1) * q.bytes≤140737488355328)
  (hc:ROut R el q.size f n s sv t) (hk:∀ sv' t',ROut R el q.size f (n+1) s sv' t'→k sv' t'):A4w T tt sv x t k :=
 ROut.apps hR hr hd hq hz hs (fun i hi=>by
  have:i=0:=by omega
  subst this;exact hg) hb hc hk
theorem ROut.write (hR:J5 R) {b:Nat} {y y':Q3} (h:ROut R ty e fo n s sv t) (hb:s b=some y):ROut R ty e fo n (upd s b y') sv (upd t b y'):=by
 obtain ⟨s0,hc,h⟩:=h
 exact ⟨_,N1.write hc hb,hR.write h (hc.sup b y hb)⟩
theorem ROut.shift (hR:J5 R) (h:ROut R ty e fo n s sv t):∃ t',B3 [sv] t [.arr e n fo] t'∧R s t':=by
 obtain ⟨s0,hc,h⟩:=h
 rcases hc with ⟨rfl,rfl,rfl⟩ | ⟨h0,bo,g,h1,rfl,rfl,h3⟩
 ·exact ⟨t,I8 e fo,h⟩
 ·exact ⟨del t bo,O0 (hR.sup h bo _ (A0 ..)) rfl (Nat.le_refl _) h3,hR.forget h h1⟩
theorem ROut.dropped (hR:J5 R) (h:ROut R ty e fo n s sv t):R s t:=by
 obtain ⟨s0,hc,h⟩:=h
 rcases hc with ⟨rfl,rfl,rfl⟩ | ⟨h0,bo,g,h1,rfl,rfl,h3⟩
 ·exact h
 ·exact hR.drop h h1
theorem ROut.sup (hR:J5 R) (h:ROut R ty e fo n s sv t):G3 s t:=hR.sup (h.dropped hR)
end
structure MkD where
 p:A9
 us:List B5
 bm:Nat
 bu:Nat
 br:Nat
 n:Nat
 q:Nat→Nat
def IsM (d:MkD) (len:Nat) (y:Q3):Prop:=∃ f,y=⟨349,18,1,f⟩∧f 0=.agg (A0F d.p++[C6 d.us,.own 1 d.bu 0 len,.own 1 d.br 0 d.n])
def B7A (used:List Bool) (y:Q3):Prop:=∃ g,y=⟨4,1,used.length,g⟩∧∀ k,k<used.length→g k=eB (used.getD k default)
def B0L (d:MkD) (y:Q3):Prop:=∃ g,y=⟨216,1,d.n,g⟩∧∀ k,k<d.n→g k=.optr 1 (d.q k) 0 0
def MkR (d:MkD) (used:List Bool) (es:Nat→List QE):St→St→Prop:=A0T d.bm (IsM d used.length) (A0T d.bu (B7A used) (A0T d.br (B0L d) (Qs d.n d.q es)))
theorem B5e (d:MkD) (used:List Bool) (es:Nat→List QE):J5 (MkR d used es):=A1Z (A1Z (A1Z (A1H _ _ _)))
theorem MkR.facts {d:MkD} {used:List Bool} {es:Nat→List QE} {s t:St} (h:MkR d used es s t) :
  (∃ f,t d.bm=some ⟨349,18,1,f⟩∧f 0=.agg (A0F d.p++[C6 d.us,.own 1 d.bu 0 used.length,.own 1 d.br 0 d.n])) ∧
  (∃ g,t d.bu=some ⟨4,1,used.length,g⟩∧∀ k,k<used.length→g k=eB (used.getD k default)) ∧
  (∃ g,t d.br=some ⟨216,1,d.n,g⟩∧∀ k,k<d.n→g k=.optr 1 (d.q k) 0 0):=by
 have b1:=A1H d.n d.q es
 have b2:J5 (A0T d.br (B0L d) (Qs d.n d.q es)):=A1Z b1
 have b3:J5 (A0T d.bu (B7A used) (A0T d.br (B0L d) (Qs d.n d.q es))):=A1Z b2
 obtain ⟨y1,⟨f,rfl,hf⟩,h1⟩:=A0T.at b3 h
 obtain ⟨_,_,_,h⟩:=h
 obtain ⟨y2,⟨g,rfl,hg⟩,h2⟩:=A0T.at b2 h
 obtain ⟨_,_,_,h⟩:=h
 obtain ⟨y3,⟨k,rfl,hk⟩,h3⟩:=A0T.at b1 h
 exact ⟨⟨f,h1,hf⟩,⟨g,h2,hg⟩,⟨k,h3,hk⟩⟩
theorem MkR.pop_S {d:MkD} {used:List Bool} {es:Nat→List QE} {s t:St} (h:MkR d used es s t) {k:Nat} (hk:k<d.n) {x:QE} {rest:List QE} (he:es k=x::rest) (htop:∀ y∈rest,H0 y x=false) :
  S P 149 [.optr 1 (d.q k) 0 0] t fun v t'=>v=.tuple [eI x.1,eI x.2,.bool true]∧MkR d used (U6 es k rest) s t':=by
 obtain ⟨h1,y1,e1,h2,y2,e2,h3,y3,e3,hq⟩:=h
 exact (hq.pop_S hk he htop).mono fun v t' hv=>⟨hv.1,h1,y1,e1,h2,y2,e2,h3,y3,e3,hv.2⟩
theorem MkR.pop0_S {d:MkD} {used:List Bool} {es:Nat→List QE} {s t:St} (h:MkR d used es s t) {k:Nat} (hk:k<d.n) (he:es k=[]) :
  S P 149 [.optr 1 (d.q k) 0 0] t fun v t'=>v=.tuple [eI 0,eI 0,.bool false]∧t'=t:=by
 obtain ⟨h1,y1,e1,h2,y2,e2,h3,y3,e3,hq⟩:=h
 exact hq.pop0_S hk he
theorem MkR.use {d:MkD} {used:List Bool} {es:Nat→List QE} {s t:St} (h:MkR d used es s t) {i:Nat} (hi:i<used.length) {g:Nat→AV} (hb:t d.bu=some ⟨4,1,used.length,g⟩) (hg:∀ k,k<used.length→g k=eB (used.getD k default)) :
  MkR d (used.set i true) es s (upd t d.bu ⟨4,1,used.length,H2 g i (eB true)⟩):=by
 have b1:=A1H d.n d.q es
 have b2:J5 (A0T d.br (B0L d) (Qs d.n d.q es)):=A1Z b1
 unfold MkR at h ⊢
 rw [List.length_set]
 refine h.map fun s h=>A0T.set b2 h ⟨H2 g i (eB true),by rw [List.length_set],fun k hk=>?_⟩
 rw [List.length_set] at hk
 by_cases e:k=i
 ·subst e;rw [A6];simp [hi]
 ·rw [G2 e,hg k hk]
  congr 1
  simp only [List.getD_eq_getElem?_getD]
  rw [List.getElem?_set_ne (fun e'=>e e'.symm)]
def K3 (used:List Bool):List QE→Option Int×List QE
 | []=>(none,[])
 | e::es=>if used.getD e.2.toNat default=true then K3 used es else (some e.2,es)
def C7x (used:List Bool):Option Int→List Bool
 | none=>used
 | some i=>used.set i.toNat true
def C5b:Option Int→AV
 | none=>.tuple [eI 0,eB false]
 | some i=>.tuple [eI i,eB true]
theorem B4e {α : Type} (f:Nat→α) (i:Nat) (u v : α):U6 (U6 f i u) i v=U6 f i v:=by
 funext k;unfold U6;split<;>rfl
theorem B6p {α : Type} (f:Nat→α) (i:Nat):U6 f i (f i)=f:=by
 funext k;unfold U6;split
 ·rename_i e;rw [e]
 ·rfl
theorem C3i (d:MkD) (used:List Bool) (es:Nat→List QE) (s t:St) (h:MkR d used es s t) (k:Nat) (hk:k<d.n) (hr:∀ e∈es k,0≤e.2∧e.2.toNat<used.length) (hs:(es k).Pairwise fun a b=>H0 b a=false) :
  S P 335 [.optr 18 d.bm 0 0,eI k] t fun v t'=>v=C5b (K3 used (es k)).1∧MkR d (C7x used (K3 used (es k)).1) (U6 es k (K3 used (es k)).2) s t':=by
 refine A8 [] B9 mixed Tryz.func335 (by rfl) rfl rfl rfl ?_;conv=>whnf
 refine ⟨[0,1],fun m vs t'=>∃ l:List QE,m=l.length∧vs=[.optr 18 d.bm 0 0,eI k]∧K3 used l=K3 used (es k)∧(∀ e∈l,0≤e.2∧e.2.toNat<used.length)∧(l.Pairwise fun a b=>H0 b a=false)∧MkR d used (U6 es k l) s t',?_,?_⟩
 ·conv=>whnf
  exact ⟨_,es k,rfl,rfl,rfl,hr,hs,by rw [B6p];exact h⟩
 ·clear h hr hs
  rintro m vs t' ⟨l,rfl,rfl,hF,hr,hs,h⟩
  rw [←hF]
  obtain ⟨⟨fm,hm,hm0⟩,⟨fu,hu,huf⟩,⟨fr,hb,hbf⟩⟩:=h.facts
  conv=>whnf
  refine F7 hm rfl (by omega) hm0 ?_;conv=>whnf
  refine ⟨rfl,⟨by omega,by omega⟩,?_⟩;conv=>whnf
  refine F7 hb rfl (by omega) (v:=.optr 1 (d.q k) 0 0) (by rw [show 0+(k:Int).toNat=k by omega];exact hbf k hk) ?_;conv=>whnf
  cases l with
  | nil =>
   refine B0 (h.pop0_S hk (F5 ..)) ?_;conv=>whnf
   exact ⟨rfl,h⟩
  | cons x l =>
   rw [List.pairwise_cons] at hs
   refine call (h.pop_S hk (F5 ..) hs.1) (fun v t2 hv=>?_)
   obtain ⟨rfl,h'⟩:=hv
   rw [B4e] at h'
   obtain ⟨⟨fm',hm',hm0'⟩,⟨fu',hu',huf'⟩,_⟩:=h'.facts
   have hx:=hr x (List.mem_cons_self ..)
   have hux:fu' (0+x.2.toNat)=eB (used.getD x.2.toNat default):=by rw [Nat.zero_add];exact huf' _ hx.2
   conv=>whnf
   refine F7 hm' rfl (by omega) hm0' ?_;conv=>whnf
   refine ⟨rfl,⟨by omega,by omega⟩,?_⟩;conv=>whnf
   refine F7 hu' rfl (by omega) hux ?_;conv=>whnf
   cases hx1:used.getD x.2.toNat default with
   | true =>
    conv=>whnf
    refine ⟨rfl,?_⟩;conv=>whnf
    refine ⟨l.length,Nat.lt_succ_self _,l,rfl,rfl,?_,fun e he=>hr e (List.mem_cons_of_mem _ he),hs.2,h'⟩
    show _=if used.getD x.2.toNat default=true then K3 used l else (some x.2,l)
    rw [hx1,if_pos rfl]
   | false =>
    have hT:K3 used (x::l)=(some x.2,l):=by
     show (if used.getD x.2.toNat default=true then K3 used l else (some x.2,l))=_
     rw [hx1,if_neg (by simp)]
    rw [hT];conv=>whnf
    refine F7 hm' rfl (by omega) hm0' ?_;conv=>whnf
    refine ⟨rfl,⟨by omega,by omega⟩,?_⟩;conv=>whnf
    refine K8 hu' rfl (by omega) hux (by rfl) ?_;conv=>whnf
    refine ⟨rfl,?_⟩
    rw [Nat.zero_add]
    exact h'.use hx.2 hu' huf'
end Go.Proofs.YtbajhapmlfbelaaGreat
namespace Go.Proofs.YtbajhapmlfbelaaGreat
open Go Go.Ab Go.Proofs Go.Sort
attribute [local irreducible] upd del
def C4 (l:List Int):List Int:=l.mergeSort fun x y=>decide (x≤y)
theorem Z7 (l:List Int):(C4 l).Perm l:=List.mergeSort_perm ..
theorem S0 (l:List Int):(C4 l).length=l.length:=(Z7 l).length_eq
def A9n (l:List Int):Q3:=⟨3,1,l.length,fun k=>eI (gI (C4 l) k)⟩
theorem B9C {st:St} {w:World} {b n:Nat} {l:List Int} {os:Array Obj} (hb:X8 st b l) (hS:G9 st w) :
  X7 st w (upd st b (A9n l)) (grow (putRow (Value.int .i64) (Sort.ahead w n) b 0 (C4 l).toArray) os)∧G9 (upd st b (A9n l)) (grow (putRow (Value.int .i64) (Sort.ahead w n) b 0 (C4 l).toArray) os):=by
 obtain ⟨f,hst,hf⟩:=hb
 obtain ⟨cs,hok⟩:=hS b _ hst
 have hbl:b<w.heap.size:=(Array.getElem?_eq_some_iff.1 hok.heap).1
 have hsz:l.length * 1≤cs.size:=hok.size
 have hheap:∀ c,c<w.heap.size→(grow (putRow (Value.int .i64) (Sort.ahead w n) b 0 (C4 l).toArray) os).heap[c]?=if b=c then some (.cells (putCells (Value.int .i64) 0 (C4 l).toArray cs) 3 (0,0)) else w.heap[c]?:=fun c hc=>by
  show ((w.heap.modify b (onCells (putCells (Value.int .i64) 0 (C4 l).toArray)))++os)[c]?=_
  rw [Array.getElem?_append_left (by simpa using hc),Array.getElem?_modify]
  split
  ·rename_i e;subst e;rw [hok.heap];rfl
  ·rfl
 have hev:X7 st w (upd st b (A9n l)) (grow (putRow (Value.int .i64) (Sort.ahead w n) b 0 (C4 l).toArray) os):=by
  refine ⟨rfl,rfl,rfl,?_,fun c hc hs=>?_,fun c=>?_⟩
  ·show w.heap.size≤((w.heap.modify b _)++os).size
   simp
  ·have hne:b≠c:=fun e=>by subst e;rw [hst] at hs;cases hs
   rw [hheap c hc,if_neg hne]
   exact ⟨rfl,by rw [B1 hne.symm];exact hs⟩
  ·by_cases hc:c<w.heap.size
   ·unfold A0O
    rw [hheap c hc]
    by_cases e:b=c
    ·subst e
     rw [hok.heap,if_pos rfl]
     simp [putCells]
    ·rw [if_neg e];exact Nat.le_refl _
   ·unfold A0O
    rw [Array.getElem?_eq_none (by omega)]
    exact Nat.zero_le _
 refine ⟨hev,fun c x hx=>?_⟩
 by_cases e:c=b
 ·subst e
  rw [A0] at hx
  cases hx
  refine ⟨putCells (Value.int .i64) 0 (C4 l).toArray cs,?_,?_,fun i hi=>rfl,fun i hi=>rfl,fun i j y hi hy=>?_⟩
  ·rw [hheap c hbl,if_pos rfl];rfl
  ·show l.length * 1≤_
   simpa [putCells] using hsz
  ·have hi':i<l.length:=hi
   cases j with
   | succ j=>simp [A9n,cellsOf] at hy
   | zero =>
    have hy':y=eI (gI (C4 l) i):=by simpa [A9n,cellsOf] using hy.symm
    subst hy'
    refine ⟨.int .i64 (gI (C4 l) i),?_,.int _ _⟩
    show (putCells (Value.int .i64) 0 (C4 l).toArray cs)[i * 1+0]?=_
    unfold putCells
    rw [Array.getElem?_mapIdx,Nat.mul_one,Nat.add_zero,Array.getElem?_eq_getElem (by omega),Option.map_some]
    rw [if_pos ⟨by omega,by simp [S0];omega⟩,Nat.sub_zero]
    have:(C4 l).toArray[i]! = gI (C4 l) i:=by
     have hl:=S0 l
     rw [getElem!_pos _ i (by simp [hl];omega)]
     simp [gI,show i<(C4 l).length by omega]
    rw [this]
 ·rw [B1 e] at hx
  obtain ⟨ds,hd⟩:=hS c x hx
  have hcl:c<w.heap.size:=(Array.getElem?_eq_some_iff.1 hd.heap).1
  exact ⟨ds,hd.evo hev (by rw [hheap c hcl,if_neg (fun e'=>e e'.symm)])⟩
theorem C3e (b:Nat) (l:List Int) (hl:l.length<4611686018427387904) (st:St) (hb:X8 st b l) :
  S P 100 [.own 1 b 0 l.length] st fun v st'=>v=.tuple []∧st'=upd st b (A9n l):=by
 refine ⟨B5H.f5.enters rfl,fun cargs w hr hS=>?_⟩
 obtain ⟨hlen,hr⟩:=hr
 have hb':=hb
 obtain ⟨f,hst,hf⟩:=hb'
 obtain ⟨cs,hok⟩:=hS b _ hst
 have h0:0<cargs.size:=by rw [←hlen];exact Nat.one_pos
 have ha:=hr 0 _ cargs[0] rfl (Array.getElem?_eq_getElem h0)
 have hc:∃ c,cargs=#[.slice (some ⟨b,0,none⟩) l.length c]:=by
  generalize hv:cargs[0]=v at ha
  cases ha with
  | own e b off n c hc hs =>
   refine ⟨c,Array.ext (by rw [←hlen];rfl) fun i h1 h2=>?_⟩
   have:i=0:=by simp at h2;exact h2
   subst this;rw [hv];rfl
 obtain ⟨c,rfl⟩:=hc
 have hH:Holds (Value.int .i64) w b 0 l.toArray:=fun j hj=>by
  have hj':j<l.length:=by simpa using hj
  obtain ⟨x,hx,hrep⟩:=hok.cell j 0 (eI (gI l j)) hj' (by show (cellsOf (f j))[0]?=_;rw [hf j hj'];rfl)
  have hxx:x=.int .i64 (gI l j):=by cases hrep;rfl
  subst hxx
  have hg:l.toArray[j]! = gI l j:=by rw [getElem!_pos _ j (by simpa using hj')];simp [gI,hj']
  refine ⟨?_,?_⟩
  ·unfold World.cell?
   rw [hok.heap,hg]
   have:cs[j * 1+0]?=some (.int .i64 (gI l j)):=hx
   simpa using this
  ·unfold World.frozen?
   rw [hok.heap]
   simp
 have hbl:b<w.heap.size:=(Array.getElem?_eq_some_iff.1 hok.heap).1
 refine (AnyM.slices_Sort_int B5H b 0 c l w hH hbl hl).mono ?_
 rintro e w' ⟨rfl,n,os,rfl⟩
 obtain ⟨h1,h2⟩:=B9C (n:=n) (os:=os) hb hS
 exact ⟨.tuple [],.tuple #[],_,⟨rfl,rfl⟩,rfl,.tuple [] #[] rfl (fun j y c hy=>by simp at hy),h2,h1⟩
theorem C1s (st:St):S P 100 [.emp] st fun v st'=>v=.tuple []∧st'=st:=by
 refine ⟨B5H.f5.enters rfl,fun cargs w hr hS=>?_⟩
 obtain ⟨hlen,hr⟩:=hr
 have h0:0<cargs.size:=by rw [←hlen];exact Nat.one_pos
 have ha:=hr 0 _ cargs[0] rfl (Array.getElem?_eq_getElem h0)
 have hc:∃ A,cargs=#[.slice A 0 0]:=by
  generalize hv:cargs[0]=v at ha
  cases ha with
  | emp A =>
   refine ⟨A,Array.ext (by rw [←hlen];rfl) fun i h1 h2=>?_⟩
   have:i=0:=by simp at h2;exact h2
   subst this;rw [hv];rfl
 obtain ⟨A,rfl⟩:=hc
 refine (AnyM.slices_Sort_int_none B5H A 0 w).mono ?_
 rintro e w' ⟨rfl,rfl⟩
 exact ⟨.tuple [],.tuple #[],_,⟨rfl,rfl⟩,rfl,.tuple [] #[] rfl (fun j y c hy=>by simp at hy),hS,X7.refl _ _⟩
theorem B0E {R:St→St→Prop} (hR:J5 R) {l:List Int} {s t:St} {sv:AV} (hl:l.length<4611686018427387904) (h:ROut R 3 1 (fun k=>eI (gI l k)) l.length s sv t) :
  S P 100 [sv] t fun v t'=>v=.tuple []∧ROut R 3 1 (fun k=>eI (gI (C4 l) k)) l.length s sv t':=by
 obtain ⟨s0,hc,h⟩:=h
 rcases hc with ⟨h0,rfl,rfl⟩ | ⟨h0,bo,g,h1,rfl,rfl,h3⟩
 ·exact (C1s t).mono fun v t' hv=>⟨hv.1,by rw [h0];exact ⟨s0,N1.start _ _ _ _,by rw [hv.2];exact h⟩⟩
 ·have hby:=hR.sup h bo _ (A0 ..)
  refine (C3e bo l hl t ⟨g,hby,h3⟩).mono fun v t' hv=>⟨hv.1,_,.inr ⟨h0,bo,fun k=>eI (gI (C4 l) k),h1,rfl,rfl,fun k hk=>rfl⟩,?_⟩
  rw [hv.2]
  have:=hR.write (y':=A9n l) h (A0 ..)
  rw [C5] at this;exact this
end Go.Proofs.YtbajhapmlfbelaaGreat
namespace Go.Proofs.YtbajhapmlfbelaaGreat
open Go Go.Ab
attribute [local irreducible] upd del
structure MSt where
 used:List Bool
 es:Nat→List QE
 l:List Int
def Y5 (k:Nat) (s:MSt):Option MSt:=match (K3 s.used (s.es k)).1 with
 | none=>none
 | some i=>some ⟨s.used.set i.toNat true,U6 s.es k (K3 s.used (s.es k)).2,s.l++[i]⟩
def P0 (k:Nat):Nat→MSt→Option MSt
 | 0,s=>some s
 | c+1,s=>(P0 k c s).bind (Y5 k)
def I3 (parts:List P3):Nat→MSt→Option MSt
 | 0,s=>some s
 | k+1,s=>(I3 parts k s).bind (P0 k (parts.getD k default).count.toNat)
theorem A4t {k:Nat} {s:MSt}:∀ {c j:Nat},P0 k j s=none→j≤c→P0 k c s=none
 | 0,j,h,hj=>by
  have:j=0:=by omega
  subst this;exact h
 | c+1,j,h,hj=>by
  rcases Nat.lt_or_ge c j with h1 | h1
  ·have:j=c+1:=by omega
   subst this;exact h
  ·unfold P0;rw [A4t h h1];rfl
theorem A4f {parts:List P3} {s:MSt}:∀ {c j:Nat},I3 parts j s=none→j≤c→I3 parts c s=none
 | 0,j,h,hj=>by
  have:j=0:=by omega
  subst this;exact h
 | c+1,j,h,hj=>by
  rcases Nat.lt_or_ge c j with h1 | h1
  ·have:j=c+1:=by omega
   subst this;exact h
  ·unfold I3;rw [A4f h h1];rfl
structure MOk (us:List B5) (n:Nat) (s:MSt):Prop where
 len:s.used.length=us.length
 rng:∀ k,k<n→∀ e∈s.es k,0≤e.2∧e.2.toNat<us.length
 srt:∀ k,k<n→(s.es k).Pairwise fun a b=>H0 b a=false
 mem:∀ x∈s.l,0≤x∧x.toNat<us.length
theorem A1V (used:List Bool) (l:List QE):(∃ pre,l=pre++(match (K3 used l).1 with | none=>[] | some i=>(match l.find? (fun e=>!used.getD e.2.toNat default) with | none=>[] | some e=>[e]))++(K3 used l).2) ∧
  (∀ i,(K3 used l).1=some i→∃ e∈l,e.2=i∧used.getD i.toNat default=false)∧((K3 used l).2.Sublist l)∧((K3 used l).1≠none→(K3 used l).2.length<l.length):=by
 induction l with
 | nil=>exact ⟨⟨[],rfl⟩,(fun i h=>by cases h),List.Sublist.refl _,fun h=>absurd rfl h⟩
 | cons e l ih =>
  obtain ⟨⟨pre,h1⟩,h2,h3,h4⟩:=ih
  by_cases hu:used.getD e.2.toNat default=true
  ·have ht:K3 used (e::l)=K3 used l:=by
    show (if used.getD e.2.toNat default=true then K3 used l else (some e.2,l))=_
    rw [if_pos hu]
   rw [ht]
   refine ⟨⟨e::pre,?_⟩,fun i hi=>?_,h3.cons _,fun h=>by have:=h4 h;simp;omega⟩
   ·rw [List.find?_cons_of_neg (by rw [hu];simp)]
    rw [List.cons_append,List.cons_append,←h1]
   ·obtain ⟨x,hx,hx2⟩:=h2 i hi
    exact ⟨x,List.mem_cons_of_mem _ hx,hx2⟩
  ·have ht:K3 used (e::l)=(some e.2,l):=by
    show (if used.getD e.2.toNat default=true then K3 used l else (some e.2,l))=_
    rw [if_neg hu]
   rw [ht]
   refine ⟨⟨[],?_⟩,fun i hi=>?_,List.sublist_cons_self _ _,fun _=>by simp⟩
   ·rw [List.find?_cons_of_pos (by rw [Bool.eq_false_iff.2 hu];rfl)];rfl
   ·have:e.2=i:=by simpa using hi
    exact ⟨e,List.mem_cons_self ..,this,by rw [←this];exact Bool.eq_false_iff.2 hu⟩
theorem MOk.take {us:List B5} {n:Nat} {s s':MSt} (h:MOk us n s) {k:Nat} (hk:k<n) (ht:Y5 k s=some s'):MOk us n s':=by
 obtain ⟨_,t2,t3,_⟩:=A1V s.used (s.es k)
 unfold Y5 at ht
 split at ht
 ·cases ht
 ·rename_i i hi
  cases ht
  obtain ⟨e,he,rfl,hu⟩:=t2 i hi
  have hr:=h.rng k hk e he
  refine ⟨by rw [List.length_set];exact h.len,fun j hj x hx=>?_,fun j hj=>?_,fun x hx=>?_⟩
  ·by_cases ej:j=k
   ·subst ej;rw [show (MSt.es _ j)=_ from rfl] at hx;simp only [F5] at hx;exact h.rng j hj x (t3.subset hx)
   ·simp only [J2 ej] at hx;exact h.rng j hj x hx
  ·by_cases ej:j=k
   ·subst ej;simp only [F5];exact (h.srt j hj).sublist t3
   ·simp only [J2 ej];exact h.srt j hj
  ·rcases List.mem_append.1 hx with hx | hx
   ·exact h.mem x hx
   ·rw [List.mem_singleton] at hx;rw [hx];exact hr
theorem B7j {k:Nat} {s s':MSt} (ht:Y5 k s=some s'):s'.l.length=s.l.length+1:=by
 unfold Y5 at ht
 split at ht
 ·cases ht
 ·cases ht;simp
theorem A0P {k:Nat} {s:MSt}:∀ {c:Nat} {s':MSt},P0 k c s=some s'→s'.l.length=s.l.length+c
 | 0,s',h=>by cases h;rfl
 | c+1,s',h=>by
  unfold P0 at h
  obtain ⟨s1,h1,h2⟩:=Option.bind_eq_some_iff.1 h
  rw [B7j h2,A0P h1];omega
theorem MOk.takes {us:List B5} {n:Nat} {s:MSt} (h:MOk us n s) {k:Nat} (hk:k<n):∀ {c:Nat} {s':MSt},P0 k c s=some s'→MOk us n s'
 | 0,s',e=>by cases e;exact h
 | c+1,s',e=>by
  unfold P0 at e
  obtain ⟨s1,h1,h2⟩:=Option.bind_eq_some_iff.1 e
  exact (h.takes hk h1).take hk h2
structure A2z (p:A9):Prop where
 n1:1≤p.parts.length
 n8:p.parts.length≤8
 cnt:∀ x∈p.parts,1≤x.count∧x.count≤100
 amt:0≤p.amount∧p.amount≤10000000000000
theorem A2z.at {p:A9} (h:A2z p) {k:Nat} (hk:k<p.parts.length):1≤(p.parts.getD k default).count∧(p.parts.getD k default).count≤100:=h.cnt _ (B4 hk)
theorem MOk.parts {us:List B5} {p:A9} {s:MSt} (h:MOk us p.parts.length s):∀ {k:Nat} {s':MSt},k≤p.parts.length→I3 p.parts k s=some s'→MOk us p.parts.length s'
 | 0,s',_,e=>by cases e;exact h
 | k+1,s',hk,e=>by
  unfold I3 at e
  obtain ⟨s1,h1,h2⟩:=Option.bind_eq_some_iff.1 e
  exact (MOk.parts h (by omega) h1).takes (by omega) h2
theorem A0K {p:A9} (hp:A2z p) {s:MSt}:∀ {k:Nat} {s':MSt},k≤p.parts.length→I3 p.parts k s=some s'→s'.l.length≤s.l.length+100 * k
 | 0,s',_,e=>by cases e;omega
 | k+1,s',hk,e=>by
  unfold I3 at e
  obtain ⟨s1,h1,h2⟩:=Option.bind_eq_some_iff.1 e
  have:=A0K hp (by omega) h1
  have:=A0P h2
  have:=hp.at (show k<p.parts.length by omega)
  omega
def G4 (us:List B5) (l:List Int):Int:=A5 (l.map fun i=>(gU us i.toNat).net)
theorem B0j (us:List B5) (l:List Int) (i:Int):G4 us (l++[i])=G4 us l+(gU us i.toNat).net:=by
 unfold G4;rw [List.map_append,F3];simp [A5]
theorem A0b {us:List B5} (hu:E2 us) (l:List Int) (hl:∀ x∈l,0≤x∧x.toNat<us.length):0≤G4 us l∧G4 us l≤10000000000000 * l.length:=by
 unfold G4
 have c1:∀ (y:Int) (r:List Int),A5 (y::r)=y+A5 r:=fun y r=>by
  have:=F3 [y] r
  rw [List.singleton_append] at this
  rw [this];simp [A5]
 induction l with
 | nil=>exact ⟨Int.le_refl _,by simp [A5]⟩
 | cons x l ih =>
  have h1:=ih (fun y hy=>hl y (List.mem_cons_of_mem _ hy))
  have h2:=hl x (List.mem_cons_self ..)
  have h3:0≤(gU us x.toNat).net:=hu.pos _ (B4 h2.2)
  have h4:(gU us x.toNat).net≤10000000000000:=hu.le (B4 h2.2)
  rw [List.map_cons,c1,List.length_cons]
  omega
theorem C2G (d:MkD) (hn:d.n=d.p.parts.length) (hp:A2z d.p) (hu:E2 d.us) (ms:MSt) (hl0:ms.l=[]) (hm:MOk d.us d.n ms) (s t:St) (h:MkR d ms.used ms.es s t) :
  S P 296 [.optr 18 d.bm 0 0] t fun v t'=>match I3 d.p.parts d.n ms with
   | none=>v=.tuple [.emp,eI 0,eB false]∧G3 s t'
   | some ms'=>v=.tuple [B6 (C4 ms'.l),eI (G4 d.us ms'.l - d.p.amount),eB (decide (G4 d.us ms'.l>d.p.amount))]∧MkR d ms'.used ms'.es s t':=by
 have hB:=fun (u:List Bool) (es:Nat→List QE)=>B5e d u es
 refine S.post (post:=fun v t'=>match I3 d.p.parts d.n ms with
   | none=>v=.tuple [.emp,eI 0,eB false]∧G3 s t'
   | some ms'=>∃ sv,v=.tuple [sv,eI (G4 d.us ms'.l - d.p.amount),eB (decide (G4 d.us ms'.l>d.p.amount))]∧ROut (MkR d ms'.used ms'.es) 3 1 (fun k=>eI (gI (C4 ms'.l) k)) ms'.l.length s sv t') ?_
  (fun v t' hv=>by
   cases hF:I3 d.p.parts d.n ms with
   | none=>rw [hF] at hv;exact ⟨v,t',hv,B3.refl _ _⟩
   | some ms' =>
    rw [hF] at hv
    obtain ⟨sv,rfl,hout⟩:=hv
    obtain ⟨t'',h1,h2⟩:=hout.shift (hB _ _)
    refine ⟨_,t'',⟨rfl,h2⟩,B3.tuple (B3.cons (h1.trans ?_) (B3.keep _ _)) rfl⟩
    have e:B6 (C4 ms'.l)=.arr 1 ms'.l.length (fun k=>eI (gI (C4 ms'.l) k)):=by unfold B6 B2;rw [S0]
    rw [e];exact B3.keep _ _)
 have hp8:=hp.n8
 refine A8 [8] B9 mixed Tryz.func296 (by rfl) rfl rfl rfl ?_
 obtain ⟨⟨fm,hmb,hm0⟩,_,_⟩:=h.facts
 conv=>whnf
 refine F7 hmb rfl (by omega) hm0 ?_;conv=>whnf
 refine ⟨[0,5,6,15,16,17],fun m vs t'=>∃ (k:Nat) (ms':MSt) (sv:AV),k≤d.n∧m=d.n - k∧vs=[.optr 18 d.bm 0 0,sv,eI (G4 d.us ms'.l),B2 3 Q4 d.p.parts,eI d.p.parts.length,eI k]∧I3 d.p.parts k ms=some ms'∧ROut (MkR d ms'.used ms'.es) 3 1 (fun j=>eI (gI ms'.l j)) ms'.l.length s sv t',?_,?_⟩
 ·conv=>whnf
  refine ⟨_,0,ms,.emp,Nat.zero_le _,rfl,?_,rfl,?_⟩
  ·rw [hl0];rfl
  ·rw [hl0];exact ROut.start h _ _ _
 ·clear h hmb hm0
  rintro m vs t' ⟨k,ms1,sv,hk,rfl,rfl,hF,hout⟩
  have hok:=MOk.parts (hn▸hm) (hn▸hk) hF
  have hlen:=A0K hp (hn▸hk) hF
  rw [hl0,List.length_nil] at hlen
  have hcb:=A0b hu ms1.l hok.mem
  conv=>whnf
  cases h2:decide ((k:Int)<(d.p.parts.length:Int))
  ·have:=of_decide_eq_false h2
   obtain rfl:k=d.n:=by omega
   rw [hF];conv=>whnf
   refine call (B0E (hB _ _) (by omega) hout) (fun v t2 hv=>?_)
   obtain ⟨rfl,hout2⟩:=hv
   obtain ⟨⟨fm,hmb,hm0⟩,_,_⟩:=(hout2.dropped (hB _ _)).facts
   conv=>whnf
   refine ⟨[],[],[0,1,2,3,4,5,6,7,8,9,10,11,12,13,14,15,16,17],by kernel_rfl,?_⟩;conv=>whnf
   refine F7 hmb rfl (by omega) hm0 ?_;conv=>whnf
   refine F7 hmb rfl (by omega) hm0 ?_;conv=>whnf
   have ha:=hp.amt
   have w:IntKind.i64.wrap (G4 d.us ms1.l - d.p.amount)=G4 d.us ms1.l - d.p.amount:=A7 (by omega) (by omega)
   exact ⟨_,by rw [w];rfl,hout2⟩
  ·have hk':k<d.p.parts.length:=by have:=of_decide_eq_true h2;omega
   have hcnt:=hp.at hk'
   conv=>whnf
   refine ⟨rfl,⟨by omega,by omega⟩,?_⟩;conv=>whnf
   refine ⟨[0,5,6,7,15,16,17,23,24],fun m vs t'=>∃ (j:Nat) (ms':MSt) (sv:AV),(j:Int)≤(d.p.parts.getD k default).count∧m=(d.p.parts.getD k default).count.toNat - j∧vs=[.optr 18 d.bm 0 0,sv,eI (G4 d.us ms'.l),eI k,B2 3 Q4 d.p.parts,eI d.p.parts.length,eI k,eI (d.p.parts.getD k default).count,eI j]∧P0 k j ms1=some ms'∧ROut (MkR d ms'.used ms'.es) 3 1 (fun j=>eI (gI ms'.l j)) ms'.l.length s sv t',?_,?_⟩
   ·conv=>whnf
    exact ⟨_,0,ms1,sv,by omega,rfl,rfl,rfl,hout⟩
   ·clear hout
    rintro m vs t' ⟨j,ms2,sv,hj,rfl,rfl,hF2,hout⟩
    have hok2:=hok.takes hk' hF2
    have hlen2:=A0P hF2
    have hcb2:=A0b hu ms2.l hok2.mem
    conv=>whnf
    cases h3:decide ((j:Int)<(d.p.parts.getD k default).count)
    ·have:=of_decide_eq_false h3
     have ej:j=(d.p.parts.getD k default).count.toNat:=by omega
     conv=>whnf
     refine ⟨rfl,?_⟩;conv=>whnf
     refine ⟨d.n - (k+1),by omega,k+1,ms2,sv,by omega,rfl,by rw [C2 (by omega)],?_,hout⟩
     unfold I3;rw [hF,←ej];exact hF2
    ·have hj':(j:Int)<(d.p.parts.getD k default).count:=of_decide_eq_true h3
     obtain ⟨s0,hcol,hMk⟩:=hout
     conv=>whnf
     refine call (C3i d ms2.used ms2.es s0 t' hMk k (by omega) (fun e he=>by rw [hok2.len];exact hok2.rng k hk' e he) (hok2.srt k hk')) (fun v t2 hv=>?_)
     obtain ⟨rfl,hMk2⟩:=hv
     have hT:P0 k (j+1) ms1=Y5 k ms2:=by
      show (P0 k j ms1).bind (Y5 k)=_
      rw [hF2];rfl
     have hmem:=(A1V ms2.used (ms2.es k)).2.1
     cases hR:(K3 ms2.used (ms2.es k)).1 with
     | none =>
      have h4:Y5 k ms2=none:=by unfold Y5;rw [hR]
      rw [h4] at hT
      have h5:=A4t (c:=(d.p.parts.getD k default).count.toNat) hT (by omega)
      have h6:I3 d.p.parts (k+1) ms=none:=by unfold I3;rw [hF];exact h5
      have h7:=A4f (c:=d.n) h6 (by omega)
      rw [h7];conv=>whnf
      exact ⟨rfl,hcol.sup.trans ((hB _ _).sup hMk2)⟩
     | some i =>
      have h4:Y5 k ms2=some ⟨ms2.used.set i.toNat true,U6 ms2.es k (K3 ms2.used (ms2.es k)).2,ms2.l++[i]⟩:=by unfold Y5;rw [hR]
      rw [hR] at hMk2
      obtain ⟨e,he,rfl,_⟩:=hmem i hR
      have hx:=hok2.rng k hk' e he
      have hn0:0≤(gU d.us e.2.toNat).net:=hu.pos _ (B4 hx.2)
      have hn1:(gU d.us e.2.toNat).net≤10000000000000:=hu.le (B4 hx.2)
      conv=>whnf
      refine ROut.app (q:=r3) (hB _ _) rfl rfl rfl rfl rfl (f:=fun j=>eI (gI (ms2.l++[e.2]) j)) (by simp only [A6c];rfl) (by show (ms2.l.length+1) * 8≤140737488355328;omega) ⟨s0,N1.congr hcol fun j hj=>by rw [J4 hj],hMk2⟩ (fun sv' t3 hout3=>?_)
      obtain ⟨⟨fm,hmb,hm0⟩,_,_⟩:=(hout3.dropped (hB _ _)).facts
      conv=>whnf
      refine F7 hmb rfl (by omega) hm0 ?_;conv=>whnf
      refine ⟨rfl,⟨by show 0≤e.2;omega,by show e.2<(d.us.length:Int);omega⟩,?_⟩;conv=>whnf
      refine ⟨rfl,?_⟩;conv=>whnf
      have w:IntKind.i64.wrap (G4 d.us ms2.l+(gU d.us e.2.toNat).net)=G4 d.us (ms2.l++[e.2]):=by rw [B0j];exact A7 (by omega) (by omega)
      refine ⟨(d.p.parts.getD k default).count.toNat - (j+1),by omega,j+1,⟨ms2.used.set e.2.toNat true,U6 ms2.es k (K3 ms2.used (ms2.es k)).2,ms2.l++[e.2]⟩,sv',by omega,rfl,?_,by rw [hT];exact h4,?_⟩
      ·rw [C2 (by omega),←w]
      ·rw [List.length_append];exact hout3
theorem O1 (y:Int) (r:List Int):A5 (y::r)=y+A5 r:=by
 have:=F3 [y] r
 rw [List.singleton_append] at this
 rw [this];simp [A5]
theorem A4T {a b:List Int} (h:a.Perm b):A5 a=A5 b:=by
 induction h with
 | nil=>rfl
 | cons x _ ih=>rw [O1,O1,ih]
 | swap x y l=>rw [O1,O1,O1,O1];omega
 | trans _ _ ih1 ih2=>exact ih1.trans ih2
theorem B5K {l:List Int} {B:Int} (h:∀ x∈l,x≤B):A5 l≤l.length * B:=by
 induction l with
 | nil=>simp [A5]
 | cons x l ih =>
  have h1:=ih (fun y hy=>h y (List.mem_cons_of_mem _ hy))
  have h2:=h x (List.mem_cons_self ..)
  rw [O1,List.length_cons]
  have:((l.length+1:Nat):Int) * B=l.length * B+B:=by
   rw [show ((l.length+1:Nat):Int)=(l.length:Int)+1 by omega,Int.add_mul,Int.one_mul]
  omega
theorem B5Y {qs:List Int} {R:List QE} (hl:∀ e∈R,e.2.toNat<qs.length) (hd:(R.map fun e=>e.2.toNat).Nodup) (k:Nat):gI (O8 qs R) k=gI qs k+if k∈R.map (fun e=>e.2.toNat) then 1 else 0:=by
 unfold O8
 induction R generalizing qs with
 | nil=>simp
 | cons e R ih =>
  rw [List.map_cons,List.nodup_cons] at hd
  have he:=hl e (List.mem_cons_self ..)
  simp only [List.foldl_cons]
  rw [ih (fun x hx=>by rw [List.length_set];exact hl x (List.mem_cons_of_mem _ hx)) hd.2]
  have hs:gI (qs.set e.2.toNat (gI qs e.2.toNat+1)) k=if k=e.2.toNat then gI qs k+1 else gI qs k:=by
   unfold gI
   simp only [List.getD_eq_getElem?_getD,List.getElem?_set]
   by_cases h:k=e.2.toNat
   ·subst h;simp [he]
   ·rw [if_neg (fun e'=>h e'.symm),if_neg h]
  rw [hs,List.map_cons]
  by_cases h:k=e.2.toNat
  ·subst h
   rw [if_pos rfl,if_neg hd.1,if_pos (List.mem_cons_self ..)];omega
  ·rw [if_neg h]
   by_cases h2:k∈R.map (fun e=>e.2.toNat)
   ·rw [if_pos h2,if_pos (List.mem_cons_of_mem _ h2)]
   ·rw [if_neg h2,if_neg (fun h3=>by
     rcases List.mem_cons.1 h3 with h4 | h4
     ·exact h h4
     ·exact h2 h4)]
theorem C1A {total:Int} {ws:List Int} (h:O7 total ws) (hS:0<A5 ws) {i:Nat} (hi:(i:Int)<F1 total (A5 ws) ws ws.length):0<((shR total (A5 ws) ws).getD i default).1:=by
 have hlr:=A1M h hS
 have hlen:=A4Q total (A5 ws) ws
 have hil:i<(shR total (A5 ws) ws).length:=by omega
 refine Int.lt_of_not_ge fun hneg=>?_
 have hsum:A5 ((shR total (A5 ws) ws).map (·.1))=A5 ws * F1 total (A5 ws) ws ws.length:=by
  have hp:=(A0Y total (A5 ws) ws).map (·.1)
  rw [A4T hp,List.map_map]
  have e:=A7R total (A5 ws) hS ws ws.length (Nat.le_refl _)
  rw [List.take_length] at e
  unfold F1
  rw [Int.mul_sub,Int.mul_comm (A5 ws) total]
  have:(List.range ws.length).map ((fun e:QE=>e.1) ∘ shE total (A5 ws) ws)=(List.range ws.length).map fun k=>total * gI ws k % A5 ws:=rfl
  rw [this];omega
 have hsorted:=A5B total (A5 ws) ws
 have hrest:∀ e∈shR total (A5 ws) ws,0≤e.1∧e.1≤A5 ws - 1:=fun e he=>by
  obtain ⟨k,hk,rfl⟩:=List.mem_map.1 ((A0Y total (A5 ws) ws).subset he)
  have h1:=Int.emod_nonneg (total * gI ws k) (show A5 ws≠0 by omega)
  have h2:=Int.emod_lt_of_pos (total * gI ws k) hS
  show 0≤total * gI ws k % A5 ws∧total * gI ws k % A5 ws≤A5 ws - 1
  omega
 generalize hR:shR total (A5 ws) ws=R at *
 have hsplit:R=R.take i++R.drop i:=(List.take_append_drop i R).symm
 have hcons:R.drop i=R.getD i default::R.drop (i+1):=by
  rw [List.getD_eq_getElem?_getD,List.getElem?_eq_getElem hil]
  exact List.drop_eq_getElem_cons hil
 have hdrop:A5 ((R.drop i).map (·.1))≤0:=by
  have:∀ x∈(R.drop i).map (·.1),x≤0:=fun x hx=>by
   obtain ⟨e,he,rfl⟩:=List.mem_map.1 hx
   rw [hcons] at he
   rcases List.mem_cons.1 he with rfl | he
   ·exact hneg
   ·have hs:=hsorted.sublist (List.drop_sublist i R)
    rw [hcons,List.pairwise_cons] at hs
    have:=(R8 _ _).1 (hs.1 e he)
    omega
  have:=B5K this
  omega
 have htake:A5 ((R.take i).map (·.1))≤i * (A5 ws - 1):=by
  have h1:=B5K (l:=(R.take i).map (·.1)) (B:=A5 ws - 1) (fun x hx=>by
   obtain ⟨e,he,rfl⟩:=List.mem_map.1 hx
   exact (hrest e (List.take_subset _ _ he)).2)
  rw [List.length_map,List.length_take,Nat.min_eq_left (by omega)] at h1
  exact h1
 have hall:A5 (R.map (·.1))=A5 ((R.take i).map (·.1))+A5 ((R.drop i).map (·.1)):=by
  conv=>lhs;rw [hsplit]
  rw [List.map_append,F3]
 have h2:A5 ws * ((i:Int)+1)≤A5 ws * F1 total (A5 ws) ws ws.length:=Int.mul_le_mul_of_nonneg_left (by omega) (by omega)
 rw [Int.mul_add,Int.mul_one] at h2
 have h3:(i:Int) * (A5 ws - 1)=A5 ws * i - i:=by rw [Int.mul_sub,Int.mul_one,Int.mul_comm]
 omega
theorem A5t {total:Int} {ws:List Int} (h:O7 total ws) (ht:total≤A5 ws) {k:Nat} (hk:k<ws.length):gI (D4 total ws) k≤gI ws k:=by
 have hw:=h.w0 _ (B4 hk)
 unfold D4
 split
 ·rename_i h0
  have:gI (ws.map fun _=>(0:Int)) k=0:=E1 (fun _:Int=>(0:Int)) ws hk
  rw [this];exact hw
 ·rename_i h0
  have hS:0<A5 ws:=by have:=C9 h.w0;omega
  have hmem:∀ e∈(shR total (A5 ws) ws).take (F1 total (A5 ws) ws ws.length).toNat,e.2.toNat<((List.range ws.length).map (shQ total (A5 ws) ws)).length:=fun e he=>by
   rw [List.length_map,List.length_range];exact (A7V (List.take_subset _ _ he)).2
  have hnd:(((shR total (A5 ws) ws).take (F1 total (A5 ws) ws ws.length).toNat).map fun e=>e.2.toNat).Nodup:=by
   have h1:((shR total (A5 ws) ws).map fun e=>e.2.toNat).Nodup:=by
    have hp:=(A0Y total (A5 ws) ws).map fun e=>e.2.toNat
    refine hp.nodup_iff.2 ?_
    rw [List.map_map]
    have:(List.range ws.length).map ((fun e:QE=>e.2.toNat) ∘ shE total (A5 ws) ws)=(List.range ws.length).map id:=by
     refine List.map_congr_left fun k _=>?_
     show (k:Int).toNat=k
     omega
    rw [this,List.map_id]
    exact List.nodup_range
   exact h1.sublist ((List.take_sublist _ _).map _)
  rw [B5Y hmem hnd,I7 _ hk]
  have e1:=Int.mul_ediv_add_emod (total * gI ws k) (A5 ws)
  have e2:=Int.emod_nonneg (total * gI ws k) (show A5 ws≠0 by omega)
  have e3:total * gI ws k≤A5 ws * gI ws k:=Int.mul_le_mul_of_nonneg_right ht hw
  have e4:shQ total (A5 ws) ws k=total * gI ws k / A5 ws:=rfl
  split
  ·rename_i hin
   obtain ⟨e,he,hek⟩:=List.mem_map.1 hin
   obtain ⟨i,hi,rfl⟩:=F0 he
   rw [List.length_take] at hi
   have hle:=A1M h hS
   have hpos:=C1A h hS (i:=i) (by omega)
   have hti:((shR total (A5 ws) ws).take (F1 total (A5 ws) ws ws.length).toNat).getD i default=(shR total (A5 ws) ws).getD i default:=by
    rw [List.getD_eq_getElem?_getD,List.getD_eq_getElem?_getD,List.getElem?_take_of_lt (by omega)]
   rw [hti] at hek
   have hm2:(shR total (A5 ws) ws).getD i default∈shR total (A5 ws) ws:=B4 (by omega)
   obtain ⟨j,hj,hje⟩:=List.mem_map.1 ((A0Y total (A5 ws) ws).subset hm2)
   have hjk:j=k:=by rw [←hek,←hje];show j=(j:Int).toNat;omega
   subst hjk
   rw [←hje] at hpos
   have hpos':0<total * gI ws j % A5 ws:=hpos
   have h5:A5 ws * (total * gI ws j / A5 ws)<A5 ws * gI ws j:=by omega
   have h6:total * gI ws j / A5 ws<gI ws j:=Int.lt_of_mul_lt_mul_left h5 (by omega)
   omega
  ·have h5:A5 ws * (total * gI ws k / A5 ws)≤A5 ws * gI ws k:=by omega
   have h6:total * gI ws k / A5 ws≤gI ws k:=Int.le_of_mul_le_mul_left h5 hS
   omega
structure T4 (us:List B5) (l:List Int):Prop where
 rng:∀ k,k<l.length→0≤gI l k∧(gI l k).toNat<us.length
 ne:∀ i k,i<k→k<l.length→(gI l i).toNat≠(gI l k).toNat
theorem J8.places {us:List B5} {mine:List Int} (h:J8 us mine):T4 us mine :=
 ⟨h.rng,fun i k hik hk=>by
  have h1:=h.lt i k hik hk
  have h2:=(h.rng i (by omega)).1
  omega⟩
theorem A3w {us:List B5} {mine offs:List Int} (hm:T4 us mine):∀ k,k≤mine.length→∀ j,j<us.length→(∀ i,i<k→j≠(gI mine i).toNat)→gU (D1 us mine offs k) j=gU us j
 | 0,_,j,hj,_=>rfl
 | k+1,hk,j,hj,hne=>by
  have ih:=A3w (offs:=offs) hm k (by omega) j hj (fun i hi=>hne i (by omega))
  unfold D1 less1
  rw [A3W (by rw [M8];exact (hm.rng k (by omega)).2),if_neg (hne k (by omega))]
  exact ih
theorem A2m {us:List B5} {mine offs:List Int} (hm:T4 us mine) {k:Nat} (hk:k<mine.length):gU (D1 us mine offs k) (gI mine k).toNat=gU us (gI mine k).toNat :=
 A3w hm k (by omega) _ (hm.rng k hk).2 fun i hi=>fun e=>hm.ne i k hi hk e.symm
theorem A1a {us:List B5} (hu:E2 us) {mine offs:List Int} (hm:T4 us mine) (hlen:offs.length≤mine.length) (h:∀ k,k<offs.length→0≤gI offs k∧gI offs k≤(gU us (gI mine k).toNat).net):∀ k,k≤offs.length→Off us (D1 us mine offs k) (A5 (offs.take k))
 | 0,_=>Off.refl hu
 | k+1,hk=>by
  have ih:=A1a hu hm hlen h k (by omega)
  have hr:=hm.rng k (by omega)
  have hx:=h k (by omega)
  rw [N4 (by omega)]
  refine ih.trans (Off.less1 (ih.ok hu) (by rw [M8];exact hr.2) hx.1 ?_)
  rw [A2m hm (by omega)];exact hx.2
def G8 (us:List B5) (l:List Int):List Int:=l.map fun i=>(gU us i.toNat).net
def A1N (us:List B5) (l:List Int) (amount:Int):List B5:=D1 us l (D4 amount (G8 us l)) l.length
theorem B6w {us:List B5} (hu:E2 us) {l:List Int} (hm:T4 us l) {amount:Int} (hW:O7 amount (G8 us l)) (ha:amount≤A5 (G8 us l)):Off us (A1N us l amount) amount:=by
 obtain ⟨a,b,c⟩:=U8 hW
 have hl:(G8 us l).length=l.length:=by unfold G8;rw [List.length_map]
 have:=A1a hu hm (offs:=D4 amount (G8 us l)) (by omega) (fun k hk=>⟨c _ (B4 hk),by
  have h1:=A5t hW ha (k:=k) (by omega)
  have h2:gI (G8 us l) k=(gU us (gI l k).toNat).net:=E1 (fun i:Int=>(gU us i.toNat).net) l (by omega)
  rw [h2] at h1;exact h1⟩) (D4 amount (G8 us l)).length (Nat.le_refl _)
 rw [List.take_length,a] at this
 unfold A1N
 rw [show l.length=(D4 amount (G8 us l)).length by omega]
 exact this
theorem C0v (bo:Nat) (us:List B5) (hu:E2 us) (l:List Int) (hl:l.length≤100000) (hm:T4 us l) (amount:Int) (hW:O7 amount (G8 us l)) (st:St) (hb:A3N st bo us) :
  S P 297 [.own 3 bo 0 us.length,B6 l,eI amount] st fun v st'=>v=.tuple []∧∃ f,st'=upd st bo ⟨152,3,us.length,f⟩∧∀ k,k<us.length→f k=S9 (gU (A1N us l amount) k):=by
 have hul:=hu.len
 have hwl:(G8 us l).length=l.length:=by unfold G8;rw [List.length_map]
 obtain ⟨lg1,lg2,lg3⟩:=U8 hW
 refine A8 [] B9 mixed Tryz.func297 (by rfl) rfl rfl rfl ?_
 obtain ⟨fu,hst,hfu⟩:=hb
 conv=>whnf
 refine ⟨[0,1,2,6,13,14,15],fun m vs st'=>∃ (i:Nat) (sv:AV),i≤l.length∧m=l.length - i∧vs=[.own 3 bo 0 us.length,B6 l,eI amount,sv,B6 l,eI l.length,eI i]∧N1 2 1 (fun k=>eI (gI (G8 us l) k)) st i sv st',?_,?_⟩
 ·conv=>whnf
  exact ⟨_,0,.emp,Nat.zero_le _,rfl,rfl,N1.start _ _ _ _⟩
 ·rintro m vs st' ⟨i,sv,hi,rfl,rfl,hcol⟩
  have hst':=hcol.sup bo _ hst
  conv=>whnf
  cases h:decide ((i:Int)<(l.length:Int))
  ·have:=of_decide_eq_false h
   obtain rfl:i=l.length:=by omega
   conv=>whnf
   have hsh:B3 [eI amount,sv] st' [eI amount,B6 (G8 us l)] st:=by
    refine B3.cons (B3.keep _ _) ?_
    have e:B6 (G8 us l)=.arr 1 l.length (fun k=>eI (gI (G8 us l) k)):=by unfold B6 B2;rw [hwl]
    rw [e];exact hcol.shift
   refine H8 hsh (B0 (B0n amount (G8 us l) hW st) ?_)
   have hX:∀ k,k<l.length→0≤gI (D4 amount (G8 us l)) k∧gI (D4 amount (G8 us l)) k≤100000000000000:=fun k hk=>by
    have h1:=lg3 _ (B4 (show k<(D4 amount (G8 us l)).length by omega))
    have h2:=P1 lg3 (B4 (show k<(D4 amount (G8 us l)).length by omega))
    have:=hW.t1
    exact ⟨h1,by show gI _ _≤_;unfold gI;omega⟩
   have hlf:A1N us l amount=D1 us l (D4 amount (G8 us l)) l.length:=rfl
   have hlen:(D4 amount (G8 us l)).length=l.length:=by omega
   rw [hlf]
   generalize D4 amount (G8 us l)=xs at *
   conv=>whnf
   refine ⟨[0,1,34,35,36],fun m vs st'=>∃ (k:Nat) (f:Nat→AV),k≤l.length∧m=l.length - k∧vs=[.own 3 bo 0 us.length,B6 l,B6 xs,eI xs.length,eI k]∧st'=upd st bo ⟨152,3,us.length,f⟩∧∀ j,j<us.length→f j=S9 (gU (D1 us l xs k) j),?_,?_⟩
   ·conv=>whnf
    exact ⟨_,0,fu,Nat.zero_le _,rfl,rfl,(B9N hst).symm,hfu⟩
   ·rintro m vs st' ⟨k,f,hk,rfl,rfl,rfl,hf⟩
    conv=>whnf
    cases h2:decide ((k:Int)<(xs.length:Int))
    ·have:=of_decide_eq_false h2
     obtain rfl:k=l.length:=by omega
     conv=>whnf
     exact ⟨rfl,f,rfl,hf⟩
    ·have hk':k<l.length:=by have:=of_decide_eq_true h2;omega
     have hr:=hm.rng k hk'
     have hat:=A2m (offs:=xs) hm hk'
     have hx:=hX k hk'
     have hnet0:0≤(gU us (gI l k).toNat).net:=hu.pos _ (B4 hr.2)
     have hnet1:(gU us (gI l k).toNat).net≤10000000000000:=hu.le (B4 hr.2)
     have hfm:f (0+(gI l k).toNat)=S9 (gU (D1 us l xs k) (gI l k).toNat):=by rw [Nat.zero_add];exact hf _ hr.2
     conv=>whnf
     refine ⟨rfl,⟨by omega,by omega⟩,?_⟩;conv=>whnf
     refine ⟨rfl,⟨by omega,by omega⟩,?_⟩;conv=>whnf
     refine ⟨rfl,⟨by show 0≤gI l k;exact hr.1,by show gI l k<(us.length:Int);have:=hr.2;have:=hr.1;omega⟩,?_⟩;conv=>whnf
     refine F7 (A0 ..) rfl (by show 0+(gI l k).toNat<_;have:=hr.2;omega) hfm ?_;conv=>whnf
     refine ⟨rfl,⟨by show 0≤gI l k;exact hr.1,by show gI l k<(us.length:Int);have:=hr.2;have:=hr.1;omega⟩,?_⟩;conv=>whnf
     refine K8 (A0 ..) rfl (by show 0+(gI l k).toNat<_;have:=hr.2;omega) hfm (by rfl) ?_;conv=>whnf
     refine ⟨rfl,?_⟩;conv=>whnf
     refine ⟨l.length - (k+1),by omega,k+1,_,by omega,rfl,by rw [C2 (by omega)],C5,fun j hj=>?_⟩
     have w:IntKind.i64.wrap ((gU (D1 us l xs k) (gI l k).toNat).net - gI xs k)=(gU (D1 us l xs k) (gI l k).toNat).net - gI xs k:=by
      rw [hat];exact A7 (by omega) (by omega)
     show _=S9 (gU (less1 (D1 us l xs k) (gI l k).toNat (gI xs k)) j)
     unfold less1
     rw [A3W (by rw [M8];exact hr.2)]
     by_cases hj2:j=(gI l k).toNat
     ·rw [if_pos hj2,hj2,←w]
      show H2 f (0+(gI l k).toNat) _ _=_
      rw [Nat.zero_add,A6];rfl
     ·rw [if_neg hj2]
      show H2 f (0+(gI l k).toNat) _ _=_
      rw [Nat.zero_add,G2 hj2];exact hf j hj
  ·have hi':i<l.length:=by have:=of_decide_eq_true h;omega
   have hr:=hm.rng i hi'
   have hg:gI (G8 us l) i=(gU us (gI l i).toNat).net:=E1 (fun i:Int=>(gU us i.toNat).net) l hi'
   conv=>whnf
   refine ⟨rfl,⟨by omega,by omega⟩,?_⟩;conv=>whnf
   refine ⟨rfl,⟨by show 0≤gI l i;exact hr.1,by show gI l i<(us.length:Int);have:=hr.2;have:=hr.1;omega⟩,?_⟩;conv=>whnf
   refine F7 hst' rfl (by show 0+(gI l i).toNat<_;have:=hr.2;omega) (v:=S9 (gU us (gI l i).toNat)) (by show fu (0+(gI l i).toNat)=_;rw [Nat.zero_add];exact hfu _ hr.2) ?_;conv=>whnf
   refine N1.app (q:=r2) rfl rfl rfl rfl rfl (by simp only [hg];rfl) (by show (i+1) * 8≤140737488355328;omega) hcol (fun sv' st'' hcol'=>?_);conv=>whnf
   refine ⟨rfl,?_⟩;conv=>whnf
   exact ⟨l.length - (i+1),by omega,i+1,sv',by omega,rfl,by rw [C2 (by omega)],hcol'⟩
end Go.Proofs.YtbajhapmlfbelaaGreat
namespace Go.Proofs.YtbajhapmlfbelaaGreat
open Go Go.Ab
def tot:Nat→(Nat→List QE)→Nat
 | 0,_=>0
 | n+1,es=>tot n es+(es n).length
theorem B7q {n:Nat} {es es':Nat→List QE} (h:∀ i,i<n→(es' i).length=(es i).length):tot n es'=tot n es:=by
 induction n with
 | zero=>rfl
 | succ n ih=>unfold tot;rw [ih fun i hi=>h i (by omega),h n (by omega)]
theorem B9L {n:Nat} {es:Nat→List QE} {k:Nat} (hk:k<n) (l:List QE):tot n (U6 es k l)+(es k).length=tot n es+l.length:=by
 induction n with
 | zero=>omega
 | succ n ih =>
  unfold tot
  by_cases e:k=n
  ·subst e
   rw [F5,B7q (es:=es) fun i hi=>by rw [J2 (by omega)]];omega
  ·have:=ih (by omega)
   rw [J2 (fun e'=>e e'.symm)];omega
theorem B7k {n k:Nat} (hk:k<n) {s s':MSt} (h:Y5 k s=some s'):tot n s'.es+s'.l.length≤tot n s.es+s.l.length:=by
 have h4:=(A1V s.used (s.es k)).2.2.2
 unfold Y5 at h
 split at h
 ·cases h
 ·rename_i i hi
  cases h
  have:=h4 (by rw [hi];simp)
  have:=B9L hk (K3 s.used (s.es k)).2 (es:=s.es)
  simp only [List.length_append,List.length_cons,List.length_nil]
  omega
theorem A9v {n k:Nat} (hk:k<n) {s:MSt}:∀ {c:Nat} {s':MSt},P0 k c s=some s'→tot n s'.es+s'.l.length≤tot n s.es+s.l.length
 | 0,s',h=>by cases h;exact Nat.le_refl _
 | c+1,s',h=>by
  unfold P0 at h
  obtain ⟨s1,h1,h2⟩:=Option.bind_eq_some_iff.1 h
  exact Nat.le_trans (B7k hk h2) (A9v hk h1)
theorem A5w {n:Nat} {parts:List P3} {s:MSt}:∀ {k:Nat} {s':MSt},k≤n→I3 parts k s=some s'→tot n s'.es+s'.l.length≤tot n s.es+s.l.length
 | 0,s',_,h=>by cases h;exact Nat.le_refl _
 | k+1,s',hk,h=>by
  unfold I3 at h
  obtain ⟨s1,h1,h2⟩:=Option.bind_eq_some_iff.1 h
  exact Nat.le_trans (A9v (by omega) h2) (A5w (by omega) h1)
theorem A4g {p:A9} (hp:A2z p) {s s':MSt} (h:I3 p.parts p.parts.length s=some s'):s.l.length<s'.l.length:=by
 have hn:=hp.n1
 obtain ⟨k,hk⟩:∃ k,p.parts.length=k+1:=⟨p.parts.length - 1,by omega⟩
 have hmono:∀ {k:Nat} {s':MSt},I3 p.parts k s=some s'→s.l.length≤s'.l.length:=fun {k}=>by
  induction k with
  | zero=>intro s' h;cases h;exact Nat.le_refl _
  | succ k ih =>
   intro s' h
   unfold I3 at h
   obtain ⟨s1,h1,h2⟩:=Option.bind_eq_some_iff.1 h
   have:=ih h1
   have:=A0P h2
   omega
 rw [hk] at h
 unfold I3 at h
 obtain ⟨s1,h1,h2⟩:=Option.bind_eq_some_iff.1 h
 have h3:=hmono h1
 have h4:=A0P h2
 have h5:=hp.at (show k<p.parts.length by omega)
 omega
structure S4 (u0:List Bool) (s:MSt):Prop where
 free:∀ x∈s.l,u0.getD x.toNat default=false
 nd:(s.l.map Int.toNat).Nodup
 used:∀ j,s.used.getD j default=true↔(u0.getD j default=true∨j∈s.l.map Int.toNat)
theorem S4.start (u0:List Bool) (es:Nat→List QE):S4 u0 ⟨u0,es,[]⟩:=⟨fun x hx=>by simp at hx,List.nodup_nil,fun j=>by simp⟩
theorem S4.take {us:List B5} {n:Nat} {u0:List Bool} {s s':MSt} (h:S4 u0 s) (hok:MOk us n s) {k:Nat} (hk:k<n) (ht:Y5 k s=some s'):S4 u0 s':=by
 obtain ⟨_,t2,_,_⟩:=A1V s.used (s.es k)
 unfold Y5 at ht
 split at ht
 ·cases ht
 ·rename_i i hi
  cases ht
  obtain ⟨e,he,rfl,hu⟩:=t2 i hi
  have hr:=hok.rng k hk e he
  have hfree:u0.getD e.2.toNat default=false∧e.2.toNat∉s.l.map Int.toNat:=by
   have:¬(u0.getD e.2.toNat default=true∨e.2.toNat∈s.l.map Int.toNat):=fun h2=>by
    rw [(h.used _).2 h2] at hu;cases hu
   exact ⟨Bool.eq_false_iff.2 fun h2=>this (.inl h2),fun h2=>this (.inr h2)⟩
  refine ⟨fun x hx=>?_,?_,fun j=>?_⟩
  ·rcases List.mem_append.1 hx with hx | hx
   ·exact h.free x hx
   ·rw [List.mem_singleton] at hx;rw [hx];exact hfree.1
  ·show ((s.l++[e.2]).map Int.toNat).Nodup
   rw [List.map_append]
   refine List.nodup_append.2 ⟨h.nd,by simp,fun a ha b hb=>?_⟩
   simp only [List.map_cons,List.map_nil,List.mem_singleton] at hb
   subst hb
   exact fun e'=>hfree.2 (e'▸ha)
  ·show (s.used.set e.2.toNat true).getD j default=true↔(u0.getD j default=true∨j∈(s.l++[e.2]).map Int.toNat)
   rw [List.map_append,List.mem_append,List.map_cons,List.map_nil,List.mem_singleton]
   by_cases ej:j=e.2.toNat
   ·subst ej
    have:e.2.toNat<s.used.length:=by rw [hok.len];exact hr.2
    simp [List.getD_eq_getElem?_getD,this]
   ·have:(s.used.set e.2.toNat true).getD j default=s.used.getD j default:=by
     simp only [List.getD_eq_getElem?_getD]
     rw [List.getElem?_set_ne (fun e'=>ej e'.symm)]
    rw [this,h.used j]
    constructor
    ·rintro (h1 | h1)
     ·exact .inl h1
     ·exact .inr (.inl h1)
    ·rintro (h1 | h1 | h1)
     ·exact .inl h1
     ·exact .inr h1
     ·exact absurd h1 ej
theorem S4.takes {us:List B5} {n:Nat} {u0:List Bool} {s:MSt} (h:S4 u0 s) (hok:MOk us n s) {k:Nat} (hk:k<n):∀ {c:Nat} {s':MSt},P0 k c s=some s'→S4 u0 s'
 | 0,s',e=>by cases e;exact h
 | c+1,s',e=>by
  unfold P0 at e
  obtain ⟨s1,h1,h2⟩:=Option.bind_eq_some_iff.1 e
  exact (S4.takes h hok hk h1).take (hok.takes hk h1) hk h2
theorem S4.parts {us:List B5} {p:A9} {u0:List Bool} {s:MSt} (h:S4 u0 s) (hok:MOk us p.parts.length s):∀ {k:Nat} {s':MSt},k≤p.parts.length→I3 p.parts k s=some s'→S4 u0 s'
 | 0,s',_,e=>by cases e;exact h
 | k+1,s',hk,e=>by
  unfold I3 at e
  obtain ⟨s1,h1,h2⟩:=Option.bind_eq_some_iff.1 e
  exact (S4.parts h hok (by omega) h1).takes (MOk.parts hok (by omega) h1) (by omega) h2
theorem A9y {us:List B5} (hu:E2 us) {l:List Int} (hm:T4 us l):A5 (G8 us l)≤A5 (D5 us):=by
 have hl:(G8 us l).length=l.length:=by unfold G8;rw [List.length_map]
 have:=A1a hu hm (offs:=G8 us l) (by omega) (fun k hk=>by
  have h2:gI (G8 us l) k=(gU us (gI l k).toNat).net:=E1 (fun i:Int=>(gU us i.toNat).net) l (by omega)
  rw [h2]
  exact ⟨hu.at0 _,Int.le_refl _⟩) (G8 us l).length (Nat.le_refl _)
 rw [List.take_length] at this
 have h1:=this.sum
 have h2:=C9 (this.ok hu).nets0
 omega
theorem B0s {us:List B5} {l:List Int} (hm:∀ x∈l,0≤x∧x.toNat<us.length) (hd:(l.map Int.toNat).Nodup):T4 us l:=by
 refine ⟨fun k hk=>hm _ (B4 hk),fun i k hik hk e=>?_⟩
 have hi:(l.map Int.toNat)[i]'(by rw [List.length_map];omega)=(l.map Int.toNat)[k]'(by rw [List.length_map];omega):=by
  rw [List.getElem_map,List.getElem_map]
  have h1:gI l i=l[i]:=by simp [gI,show i<l.length by omega]
  have h2:gI l k=l[k]:=by simp [gI,hk]
  rw [←h1,←h2];exact e
 exact (List.pairwise_iff_getElem.1 hd i k _ _ hik) hi
structure BSt where
 out:List B5
 ms:MSt
 taken:List Int
 all:Int
def A0Q (p:A9) (us:List B5) (b:BSt):Option BSt:=match I3 p.parts p.parts.length ⟨b.ms.used,b.ms.es,[]⟩ with
 | none=>none
 | some s=>if G4 us s.l>p.amount then some ⟨A1N b.out (C4 s.l) (G4 us s.l - p.amount),s,b.taken++C4 s.l,b.all+(G4 us s.l - p.amount)⟩ else none
def A1I (p:A9) (us:List B5):Nat→BSt→BSt
 | 0,b=>b
 | m+1,b=>match A0Q p us b with
  | none=>b
  | some b'=>A1I p us m b'
def E8 (us:List B5) (parts:List (List Int)):BSt:=⟨us,⟨List.replicate us.length false,fun k=>D8 us (parts.getD k []),[]⟩,[],0⟩
def N9 (p:A9) (us:List B5) (parts:List (List Int)):List B5×Int :=
 let b:=A1I p us (tot p.parts.length (E8 us parts).ms.es+1) (E8 us parts)
 (if p.closes=true then closeB b.out b.taken else b.out,b.all)
structure BOk (p:A9) (us:List B5) (D:Nat) (b:BSt):Prop where
 off:Off us b.out b.all
 same:∀ j,b.ms.used.getD j default=false→gU b.out j=gU us j
 ok:MOk us p.parts.length b.ms
 mem:∀ x∈b.taken,0≤x∧x.toNat<us.length
 len:b.taken.length+tot p.parts.length b.ms.es≤D
theorem Q2 {l:List Int} {x:Int}:x∈C4 l↔x∈l:=(Z7 l).mem_iff
structure C3t (p:A9) (us:List B5) (b:BSt) (s:MSt):Prop where
 places:T4 b.out (C4 s.l)
 weights:O7 (G4 us s.l - p.amount) (G8 b.out (C4 s.l))
 le:G4 us s.l - p.amount≤A5 (G8 b.out (C4 s.l))
theorem BOk.step {p:A9} (hp:A2z p) {us:List B5} (hu:E2 us) {D:Nat} {b:BSt} (h:BOk p us D b) {s:MSt} (hs:I3 p.parts p.parts.length ⟨b.ms.used,b.ms.es,[]⟩=some s) (hc:G4 us s.l>p.amount) :
  C3t p us b s∧BOk p us D ⟨A1N b.out (C4 s.l) (G4 us s.l - p.amount),s,b.taken++C4 s.l,b.all+(G4 us s.l - p.amount)⟩∧tot p.parts.length s.es<tot p.parts.length b.ms.es:=by
 have hok0:MOk us p.parts.length ⟨b.ms.used,b.ms.es,[]⟩:=⟨h.ok.len,h.ok.rng,h.ok.srt,fun x hx=>by simp at hx⟩
 have hok:=MOk.parts hok0 (Nat.le_refl _) hs
 have htr:=S4.parts (S4.start b.ms.used b.ms.es) hok0 (Nat.le_refl _) hs
 have hlen:=A0K hp (Nat.le_refl _) hs
 have htot:=A5w (n:=p.parts.length) (Nat.le_refl _) hs
 have hpos:=A4g hp hs
 simp only [List.length_nil] at hlen htot hpos
 have hn8:=hp.n8
 have ha:=hp.amt
 have hpl:T4 b.out (C4 s.l):=B0s (fun x hx=>by rw [h.off.len];exact hok.mem x (Q2.1 hx)) (((Z7 s.l).map Int.toNat).nodup_iff.2 htr.nd)
 have hsame:∀ x∈s.l,(gU b.out x.toNat).net=(gU us x.toNat).net:=fun x hx=>by rw [h.same _ (htr.free x hx)]
 have hw:A5 (G8 b.out (C4 s.l))=G4 us s.l:=by
  unfold G8 G4
  rw [A4T ((Z7 s.l).map fun i=>(gU b.out i.toNat).net)]
  congr 1
  exact List.map_congr_left fun x hx=>hsame x hx
 have hou:=h.off.ok hu
 have hwl:=A9y hou hpl
 have hos:=hou.sum
 have hcb:=A0b hu s.l hok.mem
 have hW:O7 (G4 us s.l - p.amount) (G8 b.out (C4 s.l)):=by
  refine ⟨by omega,by omega,?_,fun w hw=>?_,by omega,fun e=>by omega⟩
  ·unfold G8;rw [List.length_map,S0];omega
  ·obtain ⟨i,hi,rfl⟩:=List.mem_map.1 hw;exact hou.at0 _
 have hL:=B6w hou hpl hW (by omega)
 refine ⟨⟨hpl,hW,by omega⟩,⟨h.off.trans hL,fun j hj=>?_,hok,fun x hx=>?_,?_⟩,by omega⟩
 ·have hnot:¬(b.ms.used.getD j default=true∨j∈s.l.map Int.toNat):=fun h2=>by
   rw [(htr.used j).2 h2] at hj;cases hj
  have hju:b.ms.used.getD j default=false:=Bool.eq_false_iff.2 fun h2=>hnot (.inl h2)
  rw [←h.same j hju]
  by_cases hjl:j<b.out.length
  ·exact A3w hpl _ (Nat.le_refl _) j hjl fun i hi e=>hnot (.inr (by
    have:gI (C4 s.l) i∈s.l:=Q2.1 (B4 hi)
    rw [e];exact List.mem_map_of_mem this))
  ·have e1:gU b.out j=default:=by unfold gU;rw [List.getD_eq_getElem?_getD,List.getElem?_eq_none (by omega)];rfl
   have e2:gU (A1N b.out (C4 s.l) (G4 us s.l - p.amount)) j=default:=by
    unfold gU;rw [List.getD_eq_getElem?_getD,List.getElem?_eq_none (by rw [hL.len];omega)];rfl
   rw [e1];exact e2
 ·rcases List.mem_append.1 hx with hx | hx
  ·exact h.mem x hx
  ·exact hok.mem x (Q2.1 hx)
 ·rw [List.length_append,S0]
  have:=h.len
  show _+tot p.parts.length s.es≤D
  omega
theorem B5h {p:A9} (hp:A2z p) {us:List B5} (hu:E2 us) {D:Nat}:∀ (m:Nat) {b:BSt},BOk p us D b→BOk p us D (A1I p us m b)
 | 0,b,h=>h
 | m+1,b,h=>by
  unfold A1I A0Q
  cases hs:I3 p.parts p.parts.length ⟨b.ms.used,b.ms.es,[]⟩ with
  | none=>exact h
  | some s =>
   simp only
   by_cases hc:G4 us s.l>p.amount
   ·rw [if_pos hc]
    exact B5h hp hu m (h.step hp hu hs hc).2.1
   ·rw [if_neg hc];exact h
theorem A3S {p:A9} {us:List B5} (hu:E2 us) {parts:List (List Int)} (hl:parts.length=p.parts.length) (hm:∀ k,k<parts.length→J8 us (parts.getD k [])):BOk p us (tot p.parts.length (E8 us parts).ms.es) (E8 us parts):=by
 refine ⟨Off.refl hu,fun j hj=>rfl,⟨by simp [E8],fun k hk e he=>A4H (hm k (by omega)).rng he,fun k hk=>A3u _,fun x hx=>by simp [E8] at hx⟩,fun x hx=>by simp [E8] at hx,?_⟩
 show 0+_≤_
 omega
theorem B2l {p:A9} (hp:A2z p) {us:List B5} (hu:E2 us) {parts:List (List Int)} (hl:parts.length=p.parts.length) (hm:∀ k,k<parts.length→J8 us (parts.getD k [])):Off us (N9 p us parts).1 (N9 p us parts).2:=by
 have h:=B5h hp hu (tot p.parts.length (E8 us parts).ms.es+1) (A3S hu hl hm)
 unfold N9
 simp only
 split
 ·have h2:=Off.closeB (h.off.ok hu) (A1I p us (tot p.parts.length (E8 us parts).ms.es+1) (E8 us parts)).taken (fun x hx=>by rw [h.off.len];exact (h.mem x hx).2)
  have h3:=h.off.trans h2
  rw [Int.add_zero] at h3;exact h3
 ·exact h.off
end Go.Proofs.YtbajhapmlfbelaaGreat
namespace Go.Proofs.YtbajhapmlfbelaaGreat
open Go Go.Ab
attribute [local irreducible] upd del
theorem B4l (l:List (List Int)) (hl:l.length≤9223372036854775807) (g:FuncId) (cs:List AV) (p:(List Int)→Bool) (st:St)
  (hg:∀ x,x∈l→S P g (B6 x::cs) st fun v st'=>v=.bool (p x)∧st'=st) :
  S P 346 [B2 1 B6 l,.fn (.func g) [] cs] st fun v st'=>v=eI (idx p l)∧st'=st:=by
 refine A8 [] B9 mixed Tryz.func346 (by rfl) rfl rfl rfl ?_;conv=>whnf
 refine ⟨[0,1,7,8],fun m vs st'=>∃ i:Nat,i≤l.length∧(∀ k,k<i→p (l.getD k default)=false)∧m=l.length - i∧vs=[B2 1 B6 l,.fn (.func g) [] cs,eI l.length,eI i]∧st'=st,?_,?_⟩
 ·conv=>whnf
  exact ⟨_,0,Nat.zero_le _,fun k hk=>absurd hk (by omega),rfl,rfl,rfl⟩
 ·rintro m vs st' ⟨i,hi,hok,rfl,rfl,rfl⟩
  conv=>whnf
  cases h:decide ((i:Int)<(l.length:Int))
  ·have:=of_decide_eq_false h
   conv=>whnf
   refine ⟨?_,rfl⟩
   rw [Q5 fun k hk=>hok k (by omega)];rfl
  ·have hi':i<l.length:=by have:=of_decide_eq_true h;omega
   conv=>whnf
   refine ⟨rfl,⟨by omega,by omega⟩,?_⟩;conv=>whnf
   refine B0 (hg (l.getD (i:Int).toNat default) (by simp [hi'])) ?_
   rw [Int.toNat_natCast]
   cases hp:p (l.getD i default)
   ·conv=>whnf
    refine ⟨rfl,?_⟩;conv=>whnf
    refine ⟨l.length - (i+1),by omega,i+1,by omega,fun k hk=>?_,rfl,by rw [C2 (by omega)],rfl⟩
    rcases Nat.lt_succ_iff_lt_or_eq.1 hk with h' | h'
    ·exact hok k h'
    ·rw [h'];exact hp
   ·conv=>whnf
    refine ⟨?_,rfl⟩
    rw [A0J hi' hok hp];rfl
theorem B8B (l:List (List Int)) (hl:l.length≤9223372036854775807) (g:FuncId) (cs:List AV) (p:(List Int)→Bool) (st:St)
  (hg:∀ x,x∈l→S P g (B6 x::cs) st fun v st'=>v=.bool (p x)∧st'=st) :
  S P 333 [B2 1 B6 l,.fn (.func g) [] cs] st fun v st'=>v=.bool (l.any p)∧st'=st:=by
 refine A8 [] B9 mixed Tryz.func333 (by rfl) rfl rfl rfl ?_;conv=>whnf
 refine B0 (B4l l hl g cs p st hg) ?_;conv=>whnf
 refine ⟨?_,rfl⟩
 rw [←A0R];rfl
theorem B8J (us:List B5) (mine:List Int) (h:E2 us) (hm:J8 us mine) (st:St):S P 334 [B6 mine,.fptr (C6 us) 0] st fun v st'=>v=.bool false∧st'=st:=by
 refine A8 [] B9 mixed Tryz.func334 (by rfl) rfl rfl rfl ?_;conv=>whnf
 refine B0 (A8o us mine h hm st) ?_;conv=>whnf
 exact ⟨rfl,rfl⟩
theorem C2t (p:A9) (us:List B5) (parts:List (List Int)) (hfit:M9 p) (hright:F6 p=true) (hk:p.kind=4) (hu:E2 us) (hl:parts.length=p.parts.length) (hl8:parts.length≤8) (hm:∀ x∈parts,J8 us x) (st:St) :
  S P 295 [B7 p,C6 us,B2 1 B6 parts] st fun v st'=>v=.bool true∧st'=st:=by
 refine A8 [3,4] B9 mixed Tryz.func295 (by rfl) rfl rfl rfl ?_;conv=>whnf
 rw [hk];conv=>whnf
 refine B0 (A7T p hfit st) ?_
 rw [hright];conv=>whnf
 rw [hl]
 have e:((p.parts.length:Int) != (p.parts.length:Int))=false:=by simp
 rw [e];conv=>whnf
 refine B0 (B8B parts (by omega) _ [.fptr (C6 us) 0] (fun _=>false) st fun x hx=>B8J us x hu (hm x hx) st) ?_;conv=>whnf
 refine ⟨?_,rfl⟩
 have:(parts.any fun _=>false)=false:=by simp
 rw [this];rfl
theorem B3C {s:St} {a b:Nat} {y:Q3} (h:a≠b) (hs:s a=none):upd s b y a=none:=by rw [B1 h];exact hs
theorem B9M {n B:Nat} {es:Nat→List QE} (h:∀ i,i<n→(es i).length≤B):tot n es≤n * B:=by
 induction n with
 | zero=>exact Nat.zero_le _
 | succ n ih =>
  unfold tot
  have h1:=ih fun i hi=>h i (by omega)
  have h2:=h n (by omega)
  have h3:(n+1) * B=n * B+B:=Nat.succ_mul n B
  omega
structure Lay (p:A9) (us:List B5) (E:Nat→List QE) (base:St) (bm bu:Nat) (i:Nat) (q:Nat→Nat) (rv:AV) (t:St):Prop where
 nbm:base bm=none
 nbu:base bu=none
 ne:bu≠bm
 has:∃ f g,f 0=.agg (A0F p++[C6 us,.own 1 bu 0 us.length,rv])∧(∀ k,k<us.length→g k=eB false) ∧
  ROut (Qs i q E) 216 1 (fun k=>.optr 1 (q k) 0 0) i (upd (upd base bm ⟨349,18,1,f⟩) bu ⟨4,1,us.length,g⟩) rv t
theorem Lay.mk' {p:A9} {us:List B5} {E:Nat→List QE} {base:St} {bm bu i:Nat} {q:Nat→Nat} {rv:AV} {t:St} (h:Lay p us E base bm bu i q rv t) (hi:0<i) :
  ∃ br,rv=.own 1 br 0 i∧MkR ⟨p,us,bm,bu,br,i,q⟩ (List.replicate us.length false) E base t:=by
 obtain ⟨h1,h2,h3,f,g,hf,hg,s0,hc,hq⟩:=h
 rcases hc with ⟨e,_,_⟩ | ⟨_,br,y,hb,rfl,rfl,hy⟩
 ·omega
 refine ⟨br,rfl,h1,_,⟨f,rfl,by rw [List.length_replicate];exact hf⟩,B3C h3 h2,_,⟨g,by rw [List.length_replicate],fun k hk=>?_⟩,hb,_,⟨y,rfl,hy⟩,hq⟩
 rw [List.length_replicate] at hk
 rw [hg k hk];simp [hk]
theorem B7X (uv:AV) (st:St):S P 290 [uv,B6 []] st fun v st'=>v=.tuple []∧st'=st:=by
 refine A8 [] B9 mixed Tryz.func290 (by rfl) rfl rfl rfl ?_;conv=>whnf
 refine A7G [0,6,7,8] ?_;conv=>whnf
 intro I;conv=>whnf
 exact ⟨rfl,rfl⟩
theorem B7S (p:A9) (us:List B5) (parts:List (List Int)) (hfit:M9 p) (hright:F6 p=true) (hk:p.kind=4) (hp:A2z p) (hu:E2 us) (hl:parts.length=p.parts.length) (hm:∀ x∈parts,J8 us x) (st:St) :
  S P 244 [B7 p,C6 us,B2 1 B6 parts] st fun v st'=>v=.tuple [C6 (N9 p us parts).1,eI (N9 p us parts).2]∧st'=st:=by
 refine S.post (post:=fun v st'=>∃ sv,v=.tuple [sv,eI (N9 p us parts).2]∧A3H st (N9 p us parts).1 sv st') ?_
  (fun v st' ⟨sv,hv,hr⟩=>⟨_,st,⟨rfl,rfl⟩,by rw [hv];exact B3.tuple (B3.cons hr.shift (B3.keep _ _)) rfl⟩)
 have hul:=hu.len
 have hn1:=hp.n1
 have hn8:=hp.n8
 have hme:∀ k,k<parts.length→J8 us (parts.getD k default):=fun k hk=>hm _ (B4 hk)
 have hst0:=A3S hu hl (fun k hk=>hme k hk)
 generalize hE:(fun k=>D8 us (parts.getD k default))=E at *
 have hEk:∀ k,E k=D8 us (parts.getD k default):=fun k=>by rw [←hE]
 have hbs:E8 us parts=⟨us,⟨List.replicate us.length false,E,[]⟩,[],0⟩:=by rw [←hE];rfl
 have hD:tot p.parts.length (E8 us parts).ms.es≤800000:=by
  have:=B9M (n:=p.parts.length) (B:=100000) (es:=(E8 us parts).ms.es) (fun i hi=>by
   rw [hbs]
   show (E i).length≤100000
   rw [hEk,A0H]
   exact Nat.le_trans (hme i (by omega)).len hul)
  have h2:p.parts.length * 100000≤8 * 100000:=Nat.mul_le_mul_right _ hn8
  omega
 have hB:N9 p us parts=(if p.closes=true then closeB (A1I p us (tot p.parts.length (E8 us parts).ms.es+1) (E8 us parts)).out (A1I p us (tot p.parts.length (E8 us parts).ms.es+1) (E8 us parts)).taken else (A1I p us (tot p.parts.length (E8 us parts).ms.es+1) (E8 us parts)).out,(A1I p us (tot p.parts.length (E8 us parts).ms.es+1) (E8 us parts)).all):=rfl
 refine A8 [3] B9 mixed Tryz.func244 (by rfl) rfl rfl rfl ?_;conv=>whnf
 refine call (A8k us hul st) (fun sv base hcol=>?_)
 have hres:=A3H.ofCol hcol
 conv=>whnf
 refine B0 (C2t p us parts hfit hright hk hu hl (by omega) hm _) ?_;conv=>whnf
 refine ⟨[4,6],[0],[0,1,2,3,4,5,6,7],by kernel_rfl,?_⟩;conv=>whnf
 refine ⟨_,fun s _=>⟨rfl,rfl⟩,?_⟩;conv=>whnf
 refine mkO rfl rfl rfl (by show 1 * us.length≤_;omega) (by omega) (by rfl) (fun bu hbu=>?_);conv=>whnf
 intro bm hbm
 have hne:bu≠bm:=fun e=>by subst e;rw [A0] at hbm;cases hbm
 rw [B1 hne.symm] at hbm;conv=>whnf
 have hlay0:Lay p us E base bm bu 0 (fun _=>0) .emp (upd (upd base bu ⟨4,r4.size,us.length,fun _=>J7 r4.zero⟩) bm ⟨349,18,1,fun _=>.agg (A0F p++[C6 us,.own 1 bu 0 us.length,.emp])⟩) :=
  ⟨hbm,hbu,hne,fun _=>.agg (A0F p++[C6 us,.own 1 bu 0 us.length,.emp]),fun _=>eB false,rfl,fun _ _=>rfl,by
   rw [O6 hne.symm]
   exact ROut.start (Qs.nil (G3.refl _)) _ _ _⟩
 refine ⟨[1,3,8,9,32,33,34],fun m vs t=>∃ (i:Nat) (q:Nat→Nat) (rv:AV),i≤parts.length∧m=parts.length - i∧vs=[C6 us,.fptr (B7 p) 0,sv,.optr 18 bm 0 0,B2 1 B6 parts,eI parts.length,eI i]∧Lay p us E base bm bu i q rv t,?_,?_⟩
 ·conv=>whnf
  exact ⟨_,0,_,.emp,Nat.zero_le _,rfl,rfl,hlay0⟩
 ·clear hlay0
  rintro m vs t ⟨i,q,rv,hi,rfl,rfl,hlay⟩
  conv=>whnf
  cases h:decide ((i:Int)<(parts.length:Int))
  ·have:=of_decide_eq_false h
   have hin:i=p.parts.length:=by omega
   subst hin
   obtain ⟨br,rfl,hMk⟩:=hlay.mk' (by omega)
   clear hlay
   conv=>whnf
   refine ⟨[3,8,9,12,13],fun m vs t=>∃ (b:BSt) (svT:AV) (ba:St),BOk p us (tot p.parts.length (E8 us parts).ms.es) b∧tot p.parts.length b.ms.es<m∧A1I p us m b=A1I p us (tot p.parts.length (E8 us parts).ms.es+1) (E8 us parts)∧vs=[.fptr (B7 p) 0,sv,.optr 18 bm 0 0,svT,eI b.all]∧A3H st b.out sv ba∧ROut (MkR ⟨p,us,bm,bu,br,p.parts.length,q⟩ b.ms.used b.ms.es) 3 1 (fun k=>eI (gI b.taken k)) b.taken.length ba svT t,?_,?_⟩
   ·conv=>whnf
    refine ⟨_,E8 us parts,.emp,base,hst0,Nat.lt_succ_self _,rfl,rfl,hres,?_⟩
    rw [hbs]
    exact ROut.start hMk _ _ _
   ·clear hMk hres
    rintro m vs t' ⟨b,svT,ba,hb,hlt,hF,rfl,hres,hout⟩
    obtain ⟨s0,hcol0,hMk⟩:=hout
    obtain ⟨m,rfl⟩:∃ n,m=n+1:=⟨m - 1,by omega⟩
    have hbl:=hb.len
    -- the end: what is closed
    have fin:∀ t2,G3 s0 t2→A0Q p us b=none→(p.closes=true→∃ v3 t3,(∀ K:KK,(∀ t3,A3H st (closeB b.out b.taken) sv t3→K (.tuple []) t3)→A1c P 290 [sv,svT] t2 K)∧v3=AV.emp∧t3=t2)∧A3H st b.out sv t2∧N9 p us parts=(if p.closes=true then closeB b.out b.taken else b.out,b.all):=fun t2 hs2 hstep=>by
     have hbf:A1I p us (m+1) b=b:=by unfold A1I;rw [hstep]
     rw [hbf] at hF
     refine ⟨fun hc=>⟨.emp,t2,fun K hK=>?_,rfl,rfl⟩,?_,by rw [hB,←hF]⟩
     ·have hsh:B3 [svT] t2 [B6 b.taken] ba:=(hs2.shift _).trans hcol0.shift
      rcases hres.2 with ⟨h5,h6⟩ | ⟨bo,hb0,rfl,hHas⟩
      ·subst h6
       have hnil:b.taken=[]:=by
        cases hbt:b.taken with
        | nil=>rfl
        | cons x l =>
         have:=(hb.mem x (by rw [hbt];exact List.mem_cons_self ..)).2
         have h7:=hb.off.len
         rw [h5,List.length_nil] at h7
         omega
       rw [hnil] at hsh
       refine H8 (args':=[.emp,B6 []]) (B3.cons (B3.keep _ _) hsh) (call (B7X _ ba) (fun v t3 hv=>?_))
       obtain ⟨rfl,rfl⟩:=hv
       refine hK _ ?_
       rw [h5,hnil]
       exact ⟨hres.1,.inl ⟨rfl,rfl⟩⟩
      ·refine H8 (args':=[.own 3 bo 0 b.out.length,B6 b.taken]) (B3.cons (B3.keep _ _) hsh) (call (B0X bo b.out b.taken (fun x hx=>by rw [hb.off.len];exact hb.mem x hx) (by omega) ba hHas) (fun v t3 hv=>?_))
       obtain ⟨rfl,hH3,hfr⟩:=hv
       refine hK _ ⟨fun x y hx=>?_,.inr ⟨bo,hb0,by rw [A0G],hH3⟩⟩
       rw [hfr x (fun e=>by subst e;rw [hb0] at hx;cases hx)];exact hres.1 x y hx
     ·have hsup:G3 ba t2:=hcol0.sup.trans hs2
      refine ⟨hres.1.trans hsup,?_⟩
      rcases hres.2 with h3 | ⟨bo,h3,h4,f,h5,h6⟩
      ·exact .inl h3
      ·exact .inr ⟨bo,h3,h4,f,hsup bo _ h5,h6⟩
    have hok0:MOk us p.parts.length ⟨b.ms.used,b.ms.es,[]⟩:=⟨hb.ok.len,hb.ok.rng,hb.ok.srt,fun x hx=>by simp at hx⟩
    conv=>whnf
    refine call (C2G ⟨p,us,bm,bu,br,p.parts.length,q⟩ rfl hp hu ⟨b.ms.used,b.ms.es,[]⟩ rfl hok0 s0 t' hMk) (fun v t2 hv=>?_)
    simp only at hv
    cases hs:I3 p.parts p.parts.length ⟨b.ms.used,b.ms.es,[]⟩ with
    | none =>
     rw [hs] at hv
     obtain ⟨rfl,hs2⟩:=hv
     obtain ⟨g1,g2,g3⟩:=fin t2 hs2 (by unfold A0Q;rw [hs])
     rw [g3];conv=>whnf
     cases hc:p.closes with
     | true =>
      obtain ⟨_,_,g4,_,_⟩:=g1 hc
      conv=>whnf
      refine g4 _ (fun t3 h3=>?_);conv=>whnf
      exact ⟨_,rfl,h3⟩
     | false =>
      conv=>whnf
      exact ⟨_,rfl,g2⟩
    | some s =>
     rw [hs] at hv
     obtain ⟨rfl,hMk2⟩:=hv
     have hBs:=B5e ⟨p,us,bm,bu,br,p.parts.length,q⟩ s.used s.es
     by_cases hcost:G4 us s.l>p.amount
     ·obtain ⟨k1,k2,k3⟩:=hb.step hp hu hs hcost
      have hcost':decide (G4 us s.l>p.amount)=true:=decide_eq_true hcost
      have hstep:A1I p us (m+1) b=A1I p us m ⟨A1N b.out (C4 s.l) (G4 us s.l - p.amount),s,b.taken++C4 s.l,b.all+(G4 us s.l - p.amount)⟩:=by
       conv=>lhs;unfold A1I A0Q
       rw [hs];simp only;rw [if_pos hcost]
      rw [hcost']
      have hlen:=A0K hp (Nat.le_refl _) hs
      have htot:=A5w (n:=p.parts.length) (Nat.le_refl _) hs
      have hpos:=A4g hp hs
      simp only [List.length_nil] at hlen htot hpos
      rcases hres.2 with ⟨h5,h6⟩ | ⟨bo,hb0,rfl,f,hstb,hf⟩
      ·exfalso
       have:=(k1.places.rng 0 (by rw [S0];omega)).2
       rw [h5,List.length_nil] at this
       omega
      have hou:=hb.off.ok hu
      have hout2:ROut (MkR ⟨p,us,bm,bu,br,p.parts.length,q⟩ s.used s.es) 3 1 (fun k=>eI (gI b.taken k)) b.taken.length ba svT t2:=⟨s0,hcol0,hMk2⟩
      conv=>whnf
      refine call (C0v bo b.out hou (C4 s.l) (by rw [S0];omega) k1.places _ k1.weights t2 ⟨f,hout2.sup hBs bo _ hstb,hf⟩) (fun v t3 hv=>?_)
      obtain ⟨rfl,f3,rfl,hf3⟩:=hv
      have hout3:=hout2.write hBs (y':=⟨152,3,b.out.length,f3⟩) hstb
      have hll:(A1N b.out (C4 s.l) (G4 us s.l - p.amount)).length=b.out.length:=by rw [k2.off.len,hb.off.len]
      conv=>whnf
      refine ROut.apps (q:=r3) (m:=s.l.length) (n:=b.taken.length) hBs rfl rfl rfl rfl (B1P (S0 s.l) _) (f:=fun k=>eI (gI (b.taken++C4 s.l) k)) (fun i hi=>?_) (by show (b.taken.length+s.l.length) * 8≤140737488355328;omega) (hout3.congr fun k hk=>by rw [J4 hk]) (fun sv' t4 hout4=>?_)
      ·show eI (gI (C4 s.l) i)=eI (gI (b.taken++C4 s.l) (b.taken.length+i))
       unfold gI
       rw [List.getD_eq_getElem?_getD,List.getD_eq_getElem?_getD,List.getElem?_append_right (by omega),Nat.add_sub_cancel_left]
      have hX1:=hb.off.pos
      have hX3:=k2.off.sum
      have hX4:=C9 (k2.off.ok hu).nets0
      have hX5:=hu.sum
      have hX6:=k1.weights.t0
      simp only at hX3 hX4
      conv=>whnf
      refine ⟨rfl,?_⟩;conv=>whnf
      refine ⟨m,Nat.lt_succ_self _,⟨A1N b.out (C4 s.l) (G4 us s.l - p.amount),s,b.taken++C4 s.l,b.all+(G4 us s.l - p.amount)⟩,sv',upd ba bo ⟨152,3,b.out.length,f3⟩,k2,by show tot p.parts.length s.es<m;omega,by rw [←hstep];exact hF,?_,?_,?_⟩
      ·have w:IntKind.i64.wrap (b.all+(G4 us s.l - p.amount))=b.all+(G4 us s.l - p.amount):=A7 (by omega) (by omega)
       show [AV.fptr (B7 p) 0,AV.own 3 bo 0 b.out.length,AV.optr 18 bm 0 0,sv',eI (IntKind.i64.wrap (b.all+(G4 us s.l - p.amount)))]=_
       rw [w]
      ·exact ⟨hres.1.over hb0,.inr ⟨bo,hb0,by show AV.own 3 bo 0 b.out.length=_;rw [hll],f3,by rw [A0,hll],by rw [hll];exact hf3⟩⟩
      ·show ROut _ _ _ _ (b.taken++C4 s.l).length _ _ _
       rw [List.length_append,S0];exact hout4
     ·have hcost':decide (G4 us s.l>p.amount)=false:=decide_eq_false hcost
      obtain ⟨g1,g2,g3⟩:=fin t2 (hBs.sup hMk2) (by unfold A0Q;rw [hs];simp only;rw [if_neg hcost])
      rw [g3,hcost'];conv=>whnf
      cases hc:p.closes with
      | true =>
       obtain ⟨_,_,g4,_,_⟩:=g1 hc
       conv=>whnf
       refine g4 _ (fun t3 h3=>?_);conv=>whnf
       exact ⟨_,rfl,h3⟩
      | false =>
       conv=>whnf
       exact ⟨_,rfl,g2⟩
  ·have hi':i<parts.length:=by have:=of_decide_eq_true h;omega
   have hmi:=hme i hi'
   have hml:=hmi.len
   obtain ⟨l1,l2,l3,f,g,hf,hg,hout⟩:=hlay
   have hbmS:∀ {n:Nat} {q:Nat→Nat} {E:Nat→List QE} {rv:AV} {fo:Nat→AV} {n':Nat} {t:St},ROut (Qs n q E) 216 1 fo n' (upd (upd base bm ⟨349,18,1,f⟩) bu ⟨4,1,us.length,g⟩) rv t→t bm=some ⟨349,18,1,f⟩:=fun h =>
    h.sup (A1H _ _ _) bm _ (by rw [B1 l3.symm,A0])
   -- what is behind the call and the append
   have after:∀ (q':Nat) (t2:St),QSt t q' true (D8 us (parts.getD i default)) t2→ROut (Qs (i+1) (U6 q i q') E) 216 1 (fun k=>.optr 1 (U6 q i q' k) 0 0) i (upd (upd base bm ⟨349,18,1,f⟩) bu ⟨4,1,us.length,g⟩) rv t2:=fun q' t2 hq'=>by
    obtain ⟨s0,hc,hqs⟩:=hout
    refine ⟨s0,N1.congr hc fun k hk=>by rw [J2 (by omega)],?_⟩
    refine (hqs.add hq').congr (fun _ _=>rfl) fun k hk=>?_
    by_cases e:k=i
    ·subst e;rw [F5,hEk]
    ·rw [J2 e]
   conv=>whnf
   refine ⟨rfl,⟨by omega,by omega⟩,?_⟩;conv=>whnf
   refine ⟨[4,7,9,12],[],[],.qui 0 (.qui 1 (.qui 2 (.qui 3 (.qui 5 (.qui 6 (.two 4 7 (.gen 7 (.qui 8 (.gen 9 (.qui 10 (.qui 11 (.gen 12 .done)))))) (.qui 4 (.qui 8 (.gen 9 (.qui 10 (.qui 11 (.gen 12 .done)))))))))))),by kernel_rfl,?_⟩;conv=>whnf
   have stored:∀ (q':Nat) (rv':AV) (t4:St),ROut (Qs (i+1) (U6 q i q') E) 216 1 (fun k=>.optr 1 (U6 q i q' k) 0 0) (i+1) (upd (upd base bm ⟨349,18,1,f⟩) bu ⟨4,1,us.length,g⟩) rv' t4→Lay p us E base bm bu (i+1) (U6 q i q') rv' (upd t4 bm ⟨349,18,1,H2 f 0 (.agg (A0F p++[C6 us,.own 1 bu 0 us.length,rv']))⟩):=fun q' rv' t4 h4=>by
    refine ⟨l1,l2,l3,H2 f 0 (.agg (A0F p++[C6 us,.own 1 bu 0 us.length,rv'])),g,A6 ..,hg,?_⟩
    have h5:=h4.write (A1H _ _ _) (b:=bm) (y':=⟨349,18,1,H2 f 0 (.agg (A0F p++[C6 us,.own 1 bu 0 us.length,rv']))⟩) (by rw [B1 l3.symm,A0])
    rw [O6 l3,C5] at h5
    exact h5
   have fin3:∀ (q':Nat) (rv':AV) (t5:St),Lay p us E base bm bu (i+1) (U6 q i q') rv' t5→∃ m',m'<parts.length - i∧∃ (i_1:Nat) (q:Nat→Nat) (rv:AV),i_1≤parts.length∧m'=parts.length - i_1∧[C6 us,AV.fptr (B7 p) 0,sv,AV.optr 18 bm 0 0,B2 1 B6 parts,eI parts.length,eI (IntKind.i64.wrap ((i:Int)+1))]=[C6 us,.fptr (B7 p) 0,sv,.optr 18 bm 0 0,B2 1 B6 parts,eI parts.length,eI i_1]∧Lay p us E base bm bu i_1 q rv t5 :=
    fun q' rv' t5 h5=>⟨parts.length - (i+1),by omega,i+1,_,rv',by omega,rfl,by rw [C2 (by omega)],h5⟩
   rcases hout.head with rfl | ⟨br,rfl⟩<;>conv=>whnf
   all_goals constructor
   all_goals conv=>whnf
   case inl.left | inr.left =>
    refine F7 (hbmS hout) rfl (by omega) hf ?_;conv=>whnf
    refine call (A6P us (parts.getD i default) hul (by omega) hmi.rng t) (fun v t2 hv=>?_)
    obtain ⟨q',rfl,hq'⟩:=hv
    have hout2:=after q' t2 hq'
    conv=>whnf
    refine ⟨_,⟨rfl,rfl⟩,?_⟩;conv=>whnf
    refine ROut.app (q:=C1d) (A1H _ _ _) rfl rfl rfl rfl rfl (by simp only [F5];rfl) (by show (i+1) * 8≤140737488355328;omega) hout2 (fun rv' t4 hout4=>?_)
    rcases hout4.head with e | ⟨br',e⟩<;>subst e
    all_goals conv=>whnf
    all_goals refine K8 (hbmS hout4) rfl (by omega) hf (by rfl) ?_
    all_goals conv=>whnf
    all_goals refine ⟨rfl,?_⟩
    all_goals conv=>whnf
    all_goals exact fin3 _ _ _ (stored q' _ _ hout4)
   case inl.right | inr.right =>
    refine call (A6P us (parts.getD i default) hul (by omega) hmi.rng t) (fun v t2 hv=>?_)
    obtain ⟨q',rfl,hq'⟩:=hv
    have hout2:=after q' t2 hq'
    conv=>whnf
    refine F7 (hbmS hout2) rfl (by omega) hf ?_;conv=>whnf
    refine ⟨_,⟨rfl,rfl⟩,?_⟩;conv=>whnf
    refine ROut.app (q:=C1d) (A1H _ _ _) rfl rfl rfl rfl rfl (by simp only [F5];rfl) (by show (i+1) * 8≤140737488355328;omega) hout2 (fun rv' t4 hout4=>?_)
    rcases hout4.head with e | ⟨br',e⟩<;>subst e
    all_goals conv=>whnf
    all_goals refine K8 (hbmS hout4) rfl (by omega) hf (by rfl) ?_
    all_goals conv=>whnf
    all_goals refine ⟨rfl,?_⟩
    all_goals conv=>whnf
    all_goals exact fin3 _ _ _ (stored q' _ _ hout4)
end Go.Proofs.YtbajhapmlfbelaaGreat
