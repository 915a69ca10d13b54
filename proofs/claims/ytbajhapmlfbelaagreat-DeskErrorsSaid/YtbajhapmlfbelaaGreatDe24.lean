/- Part 24 of the proof: contracts of the functions that the law reaches -/
import Derived.Test.YtbajhapmlfbelaaGreatDe23
set_option maxRecDepth 100000
set_option linter.unusedVariables false
set_option linter.unusedSimpArgs false
namespace Go.Proofs.YtbajhapmlfbelaaGreat
open Go Go.Ab
attribute [local irreducible] upd del
def Q7 (pr:B2):Bool:=!(pr.kind==7)
def X7 (pr:B2):Bool:=pr.kind==7
def p1B (r:F9) (l:List F5) (o:List Int):PSt:=V9 (fun p=>p) (A3G (D1 r.items l)) Q7 r.promos ⟨R8 l,[],[]⟩ o
def K8 (p:PSt):Int:=A6 (E1 p.us)
def p2B (r:F9) (l:List F5) (p1:PSt) (o:List Int):PSt×Int:=V9 (fun a=>a.1) (R7 (K8 p1)) X7 r.promos (p1,A0a r.ship (R8 l).length (K8 p1)) o
def S1 (r:F9) (l:List F5) (o1 o2:List Int):A4v:=⟨T7 l.length (p1B r l o1).us,K8 (p1B r l o1),(p2B r l (p1B r l o1) o2).2,(p2B r l (p1B r l o1) o2).1.deals⟩
theorem B7S {σ : Type} {px : σ→PSt} {step : σ→B2→σ} {sm:B2→Bool} {l:List B2} {Inv : σ→Nat→Prop} (hle:∀ a n,Inv a (n+1)→Inv a n) (hinv:∀ (a : σ) (n:Nat) (pr:B2),pr∈l→sm pr=true→Inv a (n+1)→Inv (step a pr) n) :
  ∀ (o:List Int) (a : σ) (n:Nat),(∀ x∈o,x.toNat<l.length)→Inv a (n+o.length)→Inv (V9 px step sm l a o) n:=by
 intro o
 unfold V9
 induction o with
 | nil=>intro a n _ h;exact h
 | cons x o ih =>
  intro a n hm h
  have hm':∀ y∈o,y.toNat<l.length:=fun y hy=>hm y (List.mem_cons_of_mem _ hy)
  have hx:D9 l x∈l:=B5 (hm x (List.mem_cons_self ..))
  have h':Inv a ((n+o.length)+1):=by rw [List.length_cons] at h;exact h
  by_cases hs:sm (D9 l x)=true
  ·rw [List.filter_cons_of_pos (p:=fun x=>sm (D9 l x)) hs,List.foldl_cons]
   refine ih _ _ hm' ?_
   unfold goB
   split
   ·exact hinv a _ _ hx hs h'
   ·exact hle _ _ h'
  ·rw [List.filter_cons_of_neg (p:=fun x=>sm (D9 l x)) hs]
   exact ih _ _ hm' (hle _ _ h')
def C1R (items:List Ab.Item) (us0:List B7) (p:PSt) (n:Nat):Prop:=A5J items p.us∧p.deals.length+n≤100∧p.groups.length+n≤100∧∃ x,Off us0 p.us x
def C3O (a:PSt×Int) (n:Nat):Prop:=a.1.deals.length+n≤200∧a.1.groups.length+n≤200∧0≤a.2∧a.2≤10000000000000
theorem B1l {items:List Ab.Item} {us0:List B7} {a:PSt} {n:Nat} {pr:B2} (hfit:O0 pr) (hright:G2 pr=true) (hk:Q7 pr=true) (h:C1R items us0 a (n+1)):C1R items us0 (A3G items a pr) n:=by
 obtain ⟨h1,h2,h3,x,h4⟩:=h
 obtain ⟨y,h5⟩:=B3u h1 hfit hright (by simpa [Q7] using hk)
 refine ⟨h1.off h5,?_,?_,x+y,h4.trans h5⟩
 ·unfold A3G;split
  ·simp only [A0Q,List.length_append,List.length_cons,List.length_nil];omega
  ·omega
 ·unfold A3G;split
  ·simp only [A0Q,List.length_append]
   split<;>simp<;>omega
  ·omega
theorem B1m {net:Int} {a:PSt×Int} {n:Nat} {pr:B2} (hright:G2 pr=true) (hk:X7 pr=true) (h:C3O a (n+1)):C3O (R7 net a pr) n:=by
 obtain ⟨h1,h2,h3,h4⟩:=h
 have hk7:pr.kind=7:=by simpa [X7] using hk
 have hr:=(A0U hright).ship hk7
 have hb:=Q4 a.2 pr.rate
 have hle:=A3V h3 (show 0≤pr.rate by omega) hr.2
 unfold R7 A5U
 split
 ·exact ⟨by show a.1.deals.length+n≤200;omega,by show a.1.groups.length+n≤200;omega,h3,h4⟩
 ·refine ⟨?_,?_,by show 0≤a.2 - I1 a.2 pr.rate;omega,by show a.2 - I1 a.2 pr.rate≤_;omega⟩
  ·show (if I1 a.2 pr.rate>0 then A0Q a.1 pr (I1 a.2 pr.rate) else a.1).deals.length+n≤200
   split
   ·simp only [A0Q,List.length_append,List.length_cons,List.length_nil];omega
   ·omega
  ·show (if I1 a.2 pr.rate>0 then A0Q a.1 pr (I1 a.2 pr.rate) else a.1).groups.length+n≤200
   split
   ·simp only [A0Q,List.length_append]
    split<;>simp<;>omega
   ·omega
theorem PxR.deals' {bx:Nat} {items:List Ab.Item} {p:PSt} {s t:St} (h:PxR bx items p s t):∃ dv gv f,t bx=some ⟨147,4,1,f⟩∧f 0=.agg [B1 4 E5 items,C9 p.us,dv,gv] ∧
  ((p.deals=[]∧dv=.emp)∨∃ bd g,dv=.own 2 bd 0 p.deals.length∧s bd=none∧t bd=some ⟨134,2,p.deals.length,g⟩∧∀ k,k<p.deals.length→g k=A0N p.deals k):=by
 obtain ⟨⟨dv,gv⟩,h⟩:=h
 obtain ⟨y,⟨f,rfl,hf⟩,hy⟩:=A1a.at (A2F _ _ _ _) h
 obtain ⟨hbx,_,_,hd⟩:=h
 obtain ⟨s0,hc,hg0⟩:=hd
 refine ⟨dv,gv,f,hy,hf,?_⟩
 rcases hc with ⟨h0,h1,rfl⟩ | ⟨h0,b,g0,hb,h1,rfl,hgg⟩
 ·exact .inl ⟨List.eq_nil_of_length_eq_zero h0,h1⟩
 ·refine .inr ⟨b,g0,h1,?_,(A6I _ _).sup hg0 b _ (A0 ..),hgg⟩
  by_cases e:b=bx
  ·subst e;rw [A0] at hb;cases hb
  ·rw [A9 e] at hb;exact hb
structure C1O (r:F9) (codes:List E0) (l:List F5):Prop where
 rules:J0 r=true
 codes:R9 codes=true
 lines:A6A r.items l
 few:r.promos.length≤60
 promo:∀ p∈r.promos,G2 p=true
 fee:0≤r.ship.fee∧r.ship.fee≤1000000000
theorem A8D {r:F9} {codes:List E0} {l:List F5} (h:D4 r codes l=0):C1O r codes l:=by
 unfold D4 at h
 split at h
 ·cases h
 ·rename_i h1
  split at h
  ·cases h
  ·rename_i h2
   have hr:J0 r=true:=by simpa using h1
   have hr':=hr
   unfold J0 at hr'
   simp only [Bool.and_eq_true] at hr'
   obtain ⟨⟨⟨⟨_,hp⟩,_⟩,hs⟩,_⟩:=hr'
   unfold promosC at hp
   simp only [Bool.and_eq_true,decide_eq_true_eq] at hp
   have hs':Q6 0 1000000000 r.ship.fee=true:=by
    unfold A8m at hs
    simp only [Bool.and_eq_true] at hs
    exact hs.1
   refine ⟨hr,by simpa using h2,B2r h,by omega,fun p hm=>?_,L4.1 hs'⟩
   obtain ⟨k,hk,rfl⟩:=F2 hm
   have:=B1a.1 hp.2 k hk
   unfold T1 at this
   simp only [Bool.and_eq_true] at this
   exact this.1
def C3T (r:F9) (codes:List E0) (l:List F5) (v:AV):Prop :=
 (D4 r codes l≠0∧v=.tuple [X1 ⟨[],0,0,[]⟩,eI (D4 r codes l)]) ∨
 (D4 r codes l=0∧∃ o1 o2,A8w r.promos codes o1∧A8w r.promos codes o2∧v=.tuple [X1 (S1 r l (L8 r.promos o1) (L8 r.promos o2)),eI 0])
theorem price_S {N:Nat} (hN:A2h N) (r:F9) (codes:List E0) (l:List F5) (hf:V6 r) (hc:codes.length≤Big) (hi:r.items.length≤9223372036854775807) (h20:(places r.promos codes r.promos.length).length≤N) (st:St) :
  S P 18 [I8 r,D6 codes,B1 3 F7 l] st fun v st'=>C3T r codes l v∧st'=st:=by
 refine S.post (post:=fun v st'=>(D4 r codes l≠0∧v=.tuple [.agg [.emp,eI 0,eI 0,.emp],eI (D4 r codes l)]∧F3 st st') ∨
   (D4 r codes l=0∧∃ o1 o2 bn fn dv,A8w r.promos codes o1∧A8w r.promos codes o2∧v=.tuple [.agg [.own 1 bn 0 l.length,eI (S1 r l (L8 r.promos o1) (L8 r.promos o2)).net,eI (S1 r l (L8 r.promos o1) (L8 r.promos o2)).ship,dv],eI 0] ∧
    st bn=none∧st' bn=some ⟨2,1,l.length,fn⟩∧(∀ k,k<l.length→fn k=eI (gI (S1 r l (L8 r.promos o1) (L8 r.promos o2)).nets k))∧F3 st st' ∧
    (((S1 r l (L8 r.promos o1) (L8 r.promos o2)).deals=[]∧dv=.emp)∨∃ bd g,dv=.own 2 bd 0 (S1 r l (L8 r.promos o1) (L8 r.promos o2)).deals.length∧st bd=none∧bd≠bn∧st' bd=some ⟨134,2,(S1 r l (L8 r.promos o1) (L8 r.promos o2)).deals.length,g⟩∧∀ k,k<(S1 r l (L8 r.promos o1) (L8 r.promos o2)).deals.length→g k=A0N (S1 r l (L8 r.promos o1) (L8 r.promos o2)).deals k))) ?_
  (fun v st' hv=>by
   rcases hv with ⟨h1,rfl,hs⟩ | ⟨h1,o1,o2,bn,fn,dv,h2,h3,rfl,h4,h5,h6,hs,h7⟩
   ·refine ⟨_,st,⟨.inl ⟨h1,rfl⟩,rfl⟩,(hs.shift _).trans (B4.tuple (B4.cons (B4.agg ?_) (B4.keep _ _)) rfl)⟩
    exact B4.cons (I6 1 _) (B4.cons (B4.keep [eI 0] _) (B4.cons (B4.keep [eI 0] _) (I6 2 _)))
   ·refine ⟨_,st,⟨.inr ⟨h1,o1,o2,h2,h3,rfl⟩,rfl⟩,B4.tuple (B4.cons (B4.agg ?_) (B4.keep _ _)) rfl⟩
    have hnl:(S1 r l (L8 r.promos o1) (L8 r.promos o2)).nets.length=l.length:=by show (T7 _ _).length=_;unfold T7;rw [List.length_map,List.length_range]
    generalize S1 r l (L8 r.promos o1) (L8 r.promos o2)=X at *
    have e1:B6 X.nets=.arr 1 l.length (fun k=>eI (gI X.nets k)):=by unfold B6 B1;rw [hnl]
    refine B4.cons (t:=del st' bn) ?_ (B4.cons (B4.keep [eI X.net] _) (B4.cons (B4.keep [eI X.ship] _) ?_))
    ·rw [e1];exact L0 h5 rfl (Nat.le_refl _) h6
    ·rcases h7 with ⟨h8,rfl⟩ | ⟨bd,g,rfl,h8,h9,h10,h11⟩
     ·rw [h8]
      exact ((F3.del hs h4).shift _).trans (I6 2 _)
     ·refine (L0 (b:=bd) (y:=⟨134,2,X.deals.length,g⟩) (f:=A0N X.deals) (by rw [A0M h9];exact h10) rfl (Nat.le_refl _) h11).trans ?_
      exact (F3.del (F3.del hs h4) h8).shift _)
 refine A7 [3,9,10,13] C0 mixed Tryz.func18 (by rfl) rfl rfl rfl ?_;conv=>whnf
 intro b6 hb6;conv=>whnf
 refine B3 (C0B r codes l hf hc hi _) ?_;conv=>whnf
 have h6s:∀ x:Q3,F3 st (upd st b6 x):=fun x=>(F3.refl st).upd hb6
 cases h1:(D4 r codes l != 0)
 ·have hk0:D4 r codes l=0:=by simpa using h1
  have hck:=A8D hk0
  have hln:=hck.lines
  have hlen:=hln.len
  have hus0:=B3f hln
  obtain ⟨u1,u2,u3⟩:=A1A l hln.line l.length (Nat.le_refl _)
  have hitl:(D1 r.items l).length=l.length:=List.length_map ..
  have hmo:=fun {o:List Int} (ho:A8w r.promos codes o)=>(show (L8 r.promos o).length≤60 by
   rw [List.length_map,A3T,ho.1.length_eq]
   have:=P3 r.promos codes r.promos.length
   have:=hck.few;omega)
  conv=>whnf
  refine B3 (B8a r.items l hi hlen hln.known _) ?_;conv=>whnf
  refine B3 (C3n l hlen (fun x hx=>((Z1 x).1 (hln.line x hx)).1) hus0.ok.len hln.may _) ?_;conv=>whnf
  generalize hs6:(upd st b6 _)=s6 at *
  have h6:s6 b6=some ⟨44,4,1,fun _=>K6 r44.zero⟩:=by rw [←hs6];exact A0 ..
  have hBig:(Big:Nat)≤9223372036854775807:=by decide
  have hst6:F3 st s6:=by rw [←hs6];exact h6s _
  intro bx hbx;conv=>whnf
  have hP0:PxR bx (D1 r.items l) ⟨R8 l,[],[]⟩ s6 (upd s6 bx ⟨147,4,1,fun _=>.agg [B1 4 E5 (D1 r.items l),C9 (R8 l),.emp,.emp]⟩) :=
   PxR.mk' hbx rfl (ROut.start (ROut.start (F3.refl _) _ _ _) _ _ _)
  refine call (B7k (σ:=PSt) hN bx (D1 r.items l) (PxR bx (D1 r.items l)) (fun p=>p) (A3I bx (D1 r.items l)) (fun a s t t' h hs=>h.more hs) (fun a s t h=>⟨s,h⟩) r.promos codes hck.few (Nat.le_trans hc hBig) h20 79 [.fptr (.fn (.func 77) [] []) 0] Q7 (fun pr t=>C0u pr t)
   80 [.optr 4 bx 0 0] [] (A3G (D1 r.items l)) (C1R (D1 r.items l) (R8 l)) (fun a n h=>by have:=h.2.2.1;omega) (fun a n h=>⟨h.1,by have:=h.2.1;omega,by have:=h.2.2.1;omega,h.2.2.2⟩)
   (fun a n pr s t hm hs hI h=>C5f bx (D1 r.items l) a pr (hf.fit pr hm) (hck.promo pr hm) (by simpa [Q7] using hs) hI.1 (by have:=hI.2.1;omega) (by have:=hI.2.2.1;omega) s t h)
   (fun a n pr hm hs hI=>B1l (hf.fit pr hm) (hck.promo pr hm) hs hI) ⟨R8 l,[],[]⟩ ⟨hus0,by simp,by simp,0,Off.refl hus0.ok⟩ s6 _ hP0) (fun v t1 hv=>?_)
  obtain ⟨rfl,o1,ho1,hP1⟩:=hv
  have hp1:V9 (fun p=>p) (A3G (D1 r.items l)) Q7 r.promos ⟨R8 l,[],[]⟩ (L8 r.promos o1)=p1B r l (L8 r.promos o1):=rfl
  have hI1:C1R (D1 r.items l) (R8 l) (p1B r l (L8 r.promos o1)) 40:=B7S (fun a n h=>⟨h.1,by have:=h.2.1;omega,by have:=h.2.2.1;omega,h.2.2.2⟩) (fun a n pr hm hs hI=>B1l (hf.fit pr hm) (hck.promo pr hm) hs hI) (L8 r.promos o1) ⟨R8 l,[],[]⟩ 40 (fun x hx=>(B4A ho1 hx).2) ⟨hus0,by have:=hmo ho1;show 0+(40+(L8 r.promos o1).length)≤100;omega,by have:=hmo ho1;show 0+(40+(L8 r.promos o1).length)≤100;omega,0,Off.refl hus0.ok⟩
  rw [hp1] at hP1
  have hQ:∀ o2,S1 r l (L8 r.promos o1) (L8 r.promos o2)=⟨T7 l.length (p1B r l (L8 r.promos o1)).us,K8 (p1B r l (L8 r.promos o1)),(p2B r l (p1B r l (L8 r.promos o1)) (L8 r.promos o2)).2,(p2B r l (p1B r l (L8 r.promos o1)) (L8 r.promos o2)).1.deals⟩:=fun _=>rfl
  generalize p1B r l (L8 r.promos o1)=p1 at *
  obtain ⟨hus1,hd1,hg1,xoff,hoff⟩:=hI1
  have hul1:p1.us.length=(R8 l).length:=hoff.len
  have hu1:=hus1.ok
  have hul:=hu1.len
  have hus:=hu1.sum
  have hnet0:=D0 hu1.nets0
  have hBP:=A3I bx (D1 r.items l) p1
  conv=>whnf
  refine mkO rfl rfl rfl (by show 8 * l.length≤_;omega) (by omega) (by rfl) (fun bn hbn=>?_);conv=>whnf
  intro bp hbp
  have hnb:bn≠bp:=fun e=>by subst e;rw [A0] at hbp;cases hbp
  have hbp1:t1 bp=none:=by rw [A9 hnb.symm] at hbp;exact hbp
  have hbn6:s6 bn=none:=(hBP.sup hP1).none hbn
  have hbp6:s6 bp=none:=(hBP.sup hP1).none hbp1
  conv=>whnf
  refine J7 (A0 ..) rfl (by omega) rfl (by rfl) ?_;conv=>whnf
  -- the pricer,what the lines come to,what is made of it
  have hP2:=fun (Y Z:Q3)=>hBP.begin (y:=Z) (hBP.begin (y:=Y) hP1 hbn) (by rw [A9 hnb.symm];exact hbp1)
  have hload:∀ {Y Z:Q3} {t:St},PxR bx (D1 r.items l) p1 (upd (upd s6 bn Y) bp Z) t→t bn=some Y∧t bp=some Z:=fun h=>⟨hBP.sup h bn _ (by rw [A9 hnb,A0]),hBP.sup h bp _ (A0 ..)⟩
  have hwn:∀ {Y Z Y':Q3} {t:St},PxR bx (D1 r.items l) p1 (upd (upd s6 bn Y) bp Z) t→PxR bx (D1 r.items l) p1 (upd (upd s6 bn Y') bp Z) (upd t bn Y'):=fun {Y Z Y' t} h=>by
   have:=hBP.write (b:=bn) (y':=Y') h (by rw [A9 hnb,A0])
   rw [L3 hnb.symm,B8] at this;exact this
  have hwp:∀ {Y Z Z':Q3} {t:St},PxR bx (D1 r.items l) p1 (upd (upd s6 bn Y) bp Z) t→PxR bx (D1 r.items l) p1 (upd (upd s6 bn Y) bp Z') (upd t bp Z'):=fun {Y Z Z' t} h=>by
   have:=hBP.write (b:=bp) (y':=Z') h (A0 ..)
   rw [B8] at this;exact this
  have hP3:=hP2 ⟨2,1,l.length,fun _=>K6 r2.zero⟩ ⟨44,4,1,fun _=>K6 r44.zero⟩
  have hP4:=hwp (Z':=⟨44,4,1,G6 (fun _=>K6 r44.zero) 0 (.agg [.own 1 bn 0 l.length,eI 0,eI 0,.emp])⟩) hP3
  obtain ⟨dv1,gv1,fx1,hx1,hfx1,_,_⟩:=hP4.at
  refine E9 hx1 rfl (by omega) hfx1 ?_;conv=>whnf
  have hline:∀ k,k<p1.us.length→0≤(gU p1.us k).line∧(gU p1.us k).line.toNat<l.length:=fun k hk=>by
   have:=hus1.line _ (B5 hk)
   rw [hitl] at this;exact this
  refine ⟨[1,3,6,9,10,11,45,46,47],fun m vs t=>∃ (k:Nat) (fn fp:Nat→AV),k≤p1.us.length∧m=p1.us.length - k∧vs=[D6 codes,.fptr (I8 r) 0,.optr 4 b6 0 0,.fptr (.optr 4 bx 0 0) 0,.fptr (.fn (.func 77) [] []) 0,.optr 4 bp 0 0,C9 p1.us,eI p1.us.length,eI k] ∧
   PxR bx (D1 r.items l) p1 (upd (upd s6 bn ⟨2,1,l.length,fn⟩) bp ⟨44,4,1,fp⟩) t∧fp 0=.agg [.own 1 bn 0 l.length,eI (A6 ((E1 p1.us).take k)),eI 0,.emp]∧∀ j,j<l.length→fn j=eI (F8 (p1.us.take k) j),?_,?_⟩
  ·conv=>whnf
   exact ⟨_,0,_,_,Nat.zero_le _,rfl,rfl,hP4,A5 ..,fun j _=>rfl⟩
  ·clear hP4 hP3 hx1 hfx1 hP2
   rintro m vs t ⟨k,fn,fp,hk,rfl,rfl,hP,hfp,hfn⟩
   obtain ⟨htn,htp⟩:=hload hP
   conv=>whnf
   cases hd:decide ((k:Int)<(p1.us.length:Int))
   ·have:=of_decide_eq_false hd
    obtain rfl:k=p1.us.length:=by omega
    rw [List.take_length] at hfn
    have htk:(E1 p1.us).take p1.us.length=E1 p1.us:=by rw [←List.length_map (f:=B7.net),List.take_length]
    rw [htk] at hfp;conv=>whnf
    obtain ⟨dv1,gv1,fx1,hx1,hfx1,_,_⟩:=hP.at
    refine ⟨[11],[],[0,1,2,3,4,5,6,7,8,9,10,11],by kernel_rfl,?_⟩;conv=>whnf
    refine E9 hx1 rfl (by omega) hfx1 ?_;conv=>whnf
    refine E9 htp rfl (by omega) hfp ?_;conv=>whnf
    refine ⟨_,D2 (C5l r.ship p1.us.length (K8 p1) t),?_⟩;conv=>whnf
    refine J7 htp rfl (by omega) hfp (by rfl) ?_;conv=>whnf
    have hP5:=hwp (Z':=⟨44,4,1,G6 fp 0 (.agg [.own 1 bn 0 l.length,eI (K8 p1),eI (A0a r.ship p1.us.length (K8 p1)),.emp])⟩) hP
    have hfee:0≤A0a r.ship p1.us.length (K8 p1)∧A0a r.ship p1.us.length (K8 p1)≤10000000000000:=by
     have:=hck.fee
     unfold A0a;split<;>omega
    generalize hfe:A0a r.ship p1.us.length (K8 p1)=fee at *
    have hR2:R2 bx bp bn l.length (D1 r.items l) (K8 p1) (p1,fee) (upd s6 bn ⟨2,1,l.length,fn⟩) (upd t bp ⟨44,4,1,G6 fp 0 (.agg [.own 1 bn 0 l.length,eI (K8 p1),eI fee,.emp])⟩):=⟨by rw [A9 hnb.symm];exact hbp6,_,⟨_,rfl,A5 ..⟩,hP5⟩
    refine call (B7k (σ:=PSt×Int) hN bx (D1 r.items l) (R2 bx bp bn l.length (D1 r.items l) (K8 p1)) (fun a=>a.1) (B9C bx bp bn l.length (D1 r.items l) (K8 p1)) (fun a s t t' h hs=>h.more hs) (fun a s t h=>⟨_,h.2.choose_spec.2⟩) r.promos codes hck.few (Nat.le_trans hc hBig) h20 77 [] X7 (fun pr t=>B3U pr t)
     82 [] [.fptr (.optr 4 bx 0 0) 0,.optr 4 bp 0 0] (R7 (K8 p1)) C3O (fun a n h=>by have:=h.2.1;omega) (fun a n h=>⟨by have:=h.1;omega,by have:=h.2.1;omega,h.2.2⟩)
     (fun a n pr s t hm hs hI h=>B0i bx bp bn l.length (D1 r.items l) (K8 p1) a pr hI.2.2.1 hI.2.2.2 (by have:=hI.1;omega) (by have:=hI.2.1;omega) s t h)
     (fun a n pr hm hs hI=>B1m (hck.promo pr hm) hs hI) (p1,fee) ⟨by show p1.deals.length+60≤200;omega,by show p1.groups.length+60≤200;omega,hfee⟩ (upd s6 bn ⟨2,1,l.length,fn⟩) _ hR2) (fun v t2 hv=>?_)
    obtain ⟨rfl,o2,ho2,hR3⟩:=hv
    have hp2:V9 (fun a:PSt×Int=>a.1) (R7 (K8 p1)) X7 r.promos (p1,fee) (L8 r.promos o2)=p2B r l p1 (L8 r.promos o2):=by
     unfold p2B;rw [←hfe,hul1]
    rw [hp2] at hR3
    have hQ2:=hQ o2
    generalize p2B r l p1 (L8 r.promos o2)=a2 at *
    obtain ⟨hbp7,y,⟨f7,rfl,hf7⟩,hP7⟩:=hR3
    have hBP7:=A3I bx (D1 r.items l) a2.1
    have h7p:t2 bp=some ⟨44,4,1,f7⟩:=hBP7.sup hP7 bp _ (A0 ..)
    have h7n:t2 bn=some ⟨2,1,l.length,fn⟩:=hBP7.sup hP7 bn _ (by rw [A9 hnb,A0])
    have h76:F3 s6 t2:=fun c x hc=>hBP7.sup hP7 c x (by
     have e1:c≠bp:=fun e=>by subst e;rw [hbp6] at hc;cases hc
     have e2:c≠bn:=fun e=>by subst e;rw [hbn6] at hc;cases hc
     rw [A9 e1,A9 e2];exact hc)
    have h6b:=h76 b6 _ h6
    have hb6p:b6≠bp:=fun e=>by subst e;rw [h6] at hbp6;cases hbp6
    have hb6n:b6≠bn:=fun e=>by subst e;rw [h6] at hbn6;cases hbn6
    have hstn:st bn=none:=hst6.none hbn6
    have hstp:st bp=none:=hst6.none hbp6
    obtain ⟨dv,gv,fx,hx2,hfx2,hdl⟩:=hP7.deals'
    have hS2:F3 st t2:=hst6.trans h76
    conv=>whnf
    refine E9 hx2 rfl (by omega) hfx2 ?_
    rcases hdl with ⟨hd0,rfl⟩ | ⟨bd,gd,rfl,hbd,hbt,hgd⟩
    ·conv=>whnf
     refine J7 h7p rfl (by omega) hf7 (by rfl) ?_;conv=>whnf
     refine E9 (A0 ..) rfl (by omega) (A5 ..) ?_;conv=>whnf
     refine J7 (by rw [A9 hb6p];exact h6b) rfl (by omega) rfl (by rfl) ?_;conv=>whnf
     refine E9 (A0 ..) rfl (by omega) (A5 ..) ?_;conv=>whnf
     refine .inr ⟨hk0,o1,o2,bn,fn,.emp,ho1,ho2,?_,hstn,?_,?_,((hS2.over hstp).over hb6),.inl ⟨?_,rfl⟩⟩
     ·rw [hQ2];rfl
     ·rw [A9 hb6n.symm,A9 hnb];exact h7n
     ·intro k hk
      rw [hQ2,hfn k hk]
      show eI _=eI (gI (T7 l.length p1.us) k)
      unfold T7
      rw [J9 _ hk]
     ·rw [hQ2];exact hd0
    ·have hbdp:bd≠bp:=fun e=>by subst e;rw [A0] at hbd;cases hbd
     rw [A9 hbdp] at hbd
     have hbdn:bd≠bn:=fun e=>by subst e;rw [A0] at hbd;cases hbd
     rw [A9 hbdn] at hbd
     have hbd6:bd≠b6:=fun e=>by subst e;rw [h6] at hbd;cases hbd
     conv=>whnf
     refine J7 h7p rfl (by omega) hf7 (by rfl) ?_;conv=>whnf
     refine E9 (A0 ..) rfl (by omega) (A5 ..) ?_;conv=>whnf
     refine J7 (by rw [A9 hb6p];exact h6b) rfl (by omega) rfl (by rfl) ?_;conv=>whnf
     refine E9 (A0 ..) rfl (by omega) (A5 ..) ?_;conv=>whnf
     refine .inr ⟨hk0,o1,o2,bn,fn,.own 2 bd 0 a2.1.deals.length,ho1,ho2,?_,hstn,?_,?_,((hS2.over hstp).over hb6),.inr ⟨bd,gd,?_,hst6.none hbd,hbdn,?_,?_⟩⟩
     ·rw [hQ2];rfl
     ·rw [A9 hb6n.symm,A9 hnb];exact h7n
     ·intro k hk
      rw [hQ2,hfn k hk]
      show eI _=eI (gI (T7 l.length p1.us) k)
      unfold T7
      rw [J9 _ hk]
     ·rw [hQ2]
     ·rw [A9 hbd6,A9 hbdp,hQ2];exact hbt
     ·rw [hQ2];exact hgd
   ·have hk':k<p1.us.length:=by have:=of_decide_eq_true hd;omega
    have hlk:=hline k hk'
    have hn0:0≤(gU p1.us k).net:=hu1.at0 k
    have hn1:(gU p1.us k).net≤10000000000000:=hu1.le (B5 hk')
    have e1:=N7 (l:=E1 p1.us) (i:=k) (by rw [List.length_map];exact hk')
    have e4:gI (E1 p1.us) k=(gU p1.us k).net:=E2 B7.net p1.us hk'
    have e2:=N0 hu1.nets0 (k+1)
    have e3:=D0 (l:=(E1 p1.us).take k) (fun x hx=>hu1.nets0 x (List.take_subset _ _ hx))
    have hlb:=A0h hu1 k (gU p1.us k).line.toNat
    have hlb2:=A0h hu1 (k+1) (gU p1.us k).line.toNat
    have hln1:=U9 hk' (gU p1.us k).line.toNat
    rw [if_pos rfl] at hln1
    have hfl:fn (0+(gU p1.us k).line.toNat)=eI (F8 (p1.us.take k) (gU p1.us k).line.toNat):=by rw [Nat.zero_add];exact hfn _ hlk.2
    have w1:IntKind.i64.wrap (F8 (p1.us.take k) (gU p1.us k).line.toNat+(gU p1.us k).net)=F8 (p1.us.take (k+1)) (gU p1.us k).line.toNat:=by rw [hln1];exact A8 (by omega) (by omega)
    have w2:IntKind.i64.wrap (A6 ((E1 p1.us).take k)+(gU p1.us k).net)=A6 ((E1 p1.us).take (k+1)):=by rw [e1,e4];exact A8 (by omega) (by omega)
    conv=>whnf
    refine ⟨rfl,⟨by omega,by omega⟩,?_⟩;conv=>whnf
    refine ⟨[10],[],[0,1,2,3,4,5,6,7,8,9,10],by kernel_rfl,?_⟩;conv=>whnf
    refine E9 htp rfl (by omega) hfp ?_;conv=>whnf
    refine ⟨rfl,⟨by show 0≤(gU p1.us k).line;exact hlk.1,by show (gU p1.us k).line<(l.length:Int);have:=hlk.2;have:=hlk.1;omega⟩,?_⟩;conv=>whnf
    refine E9 htn rfl (by show 0+(gU p1.us k).line.toNat<_;have:=hlk.2;omega) hfl ?_;conv=>whnf
    refine ⟨rfl,⟨by show 0≤(gU p1.us k).line;exact hlk.1,by show (gU p1.us k).line<(l.length:Int);have:=hlk.2;have:=hlk.1;omega⟩,?_⟩;conv=>whnf
    refine J7 htn rfl (by show 0+(gU p1.us k).line.toNat<_;have:=hlk.2;omega) hfl (by rfl) ?_
    have hP5:=hwn (Y':=⟨2,1,l.length,G6 fn (0+(gU p1.us k).line.toNat) (eI (F8 (p1.us.take (k+1)) (gU p1.us k).line.toNat))⟩) hP
    rw [←w1] at hP5
    obtain ⟨_,htp2⟩:=hload hP5
    conv=>whnf
    refine E9 htp2 rfl (by omega) hfp ?_;conv=>whnf
    refine J7 htp2 rfl (by omega) hfp (by rfl) ?_;conv=>whnf
    refine ⟨rfl,?_⟩;conv=>whnf
    refine ⟨p1.us.length - (k+1),by omega,k+1,_,_,by omega,rfl,by rw [C2 (by omega)],hwp hP5,?_,fun j hj=>?_⟩
    ·rw [A5,←w2];rfl
    ·show G6 fn (0+(gU p1.us k).line.toNat) _ j=_
     rw [Nat.zero_add]
     rw [U9 hk' j]
     by_cases hj2:j=(gU p1.us k).line.toNat
     ·subst hj2
      rw [if_pos rfl,A5,w1,hln1]
     ·rw [F4 hj2,if_neg (fun e=>hj2 e.symm)];exact hfn j hj
 ·have hk0:D4 r codes l≠0:=by simpa using h1
  conv=>whnf
  refine J7 (A0 ..) rfl (by omega) rfl (by rfl) ?_;conv=>whnf
  refine E9 (A0 ..) rfl (by omega) (A5 ..) ?_;conv=>whnf
  exact .inl ⟨hk0,rfl,(h6s _).over hb6⟩
theorem C4A (s:O5) (x:Ab.Item) (h1:Sm s.skus.length) (h2:Sm s.cats.length) (st:St):S P 111 [J8 s,E5 x] st fun v st'=>v=.bool (A1T s x)∧st'=st:=by
 have e:A1T s x=(((s.skus.length:Int)==0&&(s.cats.length:Int)==0)||(s.skus.any fun y=>y.toList==x.sku.toList)||(s.cats.any fun y=>y.toList==x.cat.toList)):=by
  unfold A1T inB
  rw [A1U,A1U]
  congr 1
  ·congr 1
   ·rw [←Bool.coe_iff_coe];simp only [Bool.and_eq_true,beq_iff_eq];omega
   ·congr 1;funext y;exact Bool.beq_comm
  ·congr 1;funext y;exact Bool.beq_comm
 rw [e]
 have n1:=B6e s.skus x.sku h1 st
 have n2:=B6e s.cats x.cat h2 st
 generalize (s.skus.any fun y=>y.toList==x.sku.toList)=b1 at *
 generalize (s.cats.any fun y=>y.toList==x.cat.toList)=b2 at *
 refine A7 [2,3] C0 mixed Tryz.func111 (by rfl) rfl rfl rfl ?_
 clear e
 repeat' ((conv=>whnf);first | refine B3 n1 ?_ | refine B3 n2 ?_ | (refine C4 (fun h=>?_) (fun h=>?_)<;>rw [h]))
 all_goals (conv=>whnf)
 all_goals (refine ⟨?_,rfl⟩;show AV.bool _=AV.bool _;simp only [*,Bool.true_and,Bool.false_and,Bool.or_true,Bool.or_false,Bool.true_or,Bool.false_or])
theorem B6z {l:List F5} (h:∀ x∈l,lineC x=true) {i:Nat} (hi:i≤l.length):J6 (l.take i)≤J6 l∧I2 (l.take i)≤I2 l:=by
 have:∀ j,i+j≤l.length→J6 (l.take i)≤J6 (l.take (i+j))∧I2 (l.take i)≤I2 (l.take (i+j)):=by
  intro j
  induction j with
  | zero=>intro _;exact ⟨Int.le_refl _,Int.le_refl _⟩
  | succ j ih =>
   intro hj
   obtain ⟨h1,h2⟩:=ih (by omega)
   have hm:=B5 (l:=l) (i:=i+j) (by omega)
   have e1:J6 (l.take (i+j+1))=J6 (l.take (i+j))+(l.getD (i+j) default).qty:=P1 (by omega) _ _
   have e2:I2 (l.take (i+j+1))=I2 (l.take (i+j))+(l.getD (i+j) default).qty * (l.getD (i+j) default).price:=P1 (by omega) _ _
   have h3:=A9u (h _ hm)
   have h4:=(Z1 _).1 (h _ hm)
   rw [show i+(j+1)=i+j+1 by omega,e1,e2];omega
 have h2:=this (l.length - i) (by omega)
 rw [show i+(l.length - i)=l.length by omega,List.take_length] at h2;exact h2
theorem B6f (l:List F5) (st:St):S P 161 [B1 3 F7 l] st fun v st'=>v=eI (J3 (fun _=>true) l)∧st'=st:=by
 refine A7 [] C0 mixed Tryz.func161 (by rfl) rfl rfl rfl ?_;conv=>whnf
 refine C4 (fun h=>?_) (fun h=>?_)<;>rw [h]<;>simp only [decide_eq_true_eq,decide_eq_false_iff_not] at h
 ·conv=>whnf
  exact ⟨by rw [show J3 (fun _=>true) l=6 from if_pos (by omega)];rfl,rfl⟩
 have hs:l.length≤1000:=by omega
 have hc:J3 (fun _=>true) l=match l.find? (I4 (fun _=>true)) with
  | some x=>if (fun _=>true) x.sku=true then 2 else 7
  | none=>if (decide (J6 l>100000)||decide (I2 l>10000000000000))=true then 5 else 0:=if_neg (by omega)
 conv=>whnf
 refine lp l.length [0,3] (fun i vs s=>(∀ k,k<i→lineC (l.getD k default)=true)∧vs=[B1 3 F7 l,eI i]∧s=st) ?_ ?_
 ·conv=>whnf
  exact ⟨fun k hk=>absurd hk (by omega),rfl,rfl⟩
 ·rintro i vs st' hi ⟨hok,rfl,rfl⟩
  conv=>whnf
  cases h:decide ((i:Int)<(l.length:Int))
  ·obtain rfl:=D7 h hi
   have hall:∀ x∈l,lineC x=true:=fun x hx=>by obtain ⟨k,hk,rfl⟩:=F2 hx;exact hok k hk
   rw [A7D fun k hk=>by unfold I4;rw [hok k hk];rfl] at hc
   simp only at hc
   conv=>whnf
   refine lp l.length [0,4,5,6] (fun i vs s=>(0≤J6 (l.take i)∧J6 (l.take i)≤100000)∧(0≤I2 (l.take i)∧I2 (l.take i)≤10000000000000)∧vs=[B1 3 F7 l,eI (J6 (l.take i)),eI (I2 (l.take i)),eI i]∧s=st') ?_ ?_
   ·conv=>whnf
    exact ⟨⟨Int.le_refl _,by rw [List.take_zero];decide⟩,⟨Int.le_refl _,by rw [List.take_zero];decide⟩,rfl,rfl⟩
   ·rintro i vs st' hi ⟨hu,hg,rfl,rfl⟩
    conv=>whnf
    cases h:decide ((i:Int)<(l.length:Int))
    ·obtain rfl:=D7 h hi
     rw [List.take_length] at hu hg
     rw [if_neg (by rw [decide_eq_false (show ¬ J6 l>100000 by omega),decide_eq_false (show ¬ I2 l>10000000000000 by omega)];simp)] at hc;conv=>whnf
     exact ⟨by rw [hc];rfl,rfl⟩
    ·have hi':=H0 h
     have hx:lineC (l.getD (i:Int).toNat default)=true:=hall _ (B5 hi')
     obtain ⟨⟨q0,q1⟩,_⟩:=(Z1 _).1 hx
     obtain ⟨m0,m1⟩:=A9u hx
     have eu:J6 (l.take (i+1))=J6 (l.take i)+(l.getD (i:Int).toNat default).qty:=P1 hi' _ _
     have eg:I2 (l.take (i+1))=I2 (l.take i)+(l.getD (i:Int).toNat default).qty * (l.getD (i:Int).toNat default).price:=P1 hi' _ _
     have w1:IntKind.i64.wrap (J6 (l.take i)+(l.getD (i:Int).toNat default).qty)=J6 (l.take (i+1)):=by rw [eu];exact A8 (by omega) (by omega)
     have w2:IntKind.i64.wrap ((l.getD (i:Int).toNat default).qty * (l.getD (i:Int).toNat default).price)=(l.getD (i:Int).toNat default).qty * (l.getD (i:Int).toNat default).price:=A8 (by omega) (by omega)
     have w3:IntKind.i64.wrap (I2 (l.take i)+(l.getD (i:Int).toNat default).qty * (l.getD (i:Int).toNat default).price)=I2 (l.take (i+1)):=by rw [eg];exact A8 (by omega) (by omega)
     have hmono:=B6z hall (show i+1≤l.length from hi')
     have bad:J6 (l.take (i+1))>100000∨I2 (l.take (i+1))>10000000000000→J3 (fun _=>true) l=5:=fun hb=>by
      rw [hc]
      refine if_pos ?_
      rw [Bool.or_eq_true,decide_eq_true_eq,decide_eq_true_eq];omega
     conv=>whnf
     refine ⟨rfl,⟨by omega,by omega⟩,?_⟩;conv=>whnf
     rw [w1]
     refine ⟨[],[],List.range 14,by kernel_rfl,?_⟩;conv=>whnf
     refine ⟨rfl,⟨by omega,by omega⟩,?_⟩;conv=>whnf
     refine ⟨rfl,⟨by omega,by omega⟩,?_⟩;conv=>whnf
     rw [w2,w3]
     refine C4 (fun h1=>?_) (fun h1=>?_)<;>rw [h1]
     ·conv=>whnf
      exact ⟨by rw [bad (.inl (of_decide_eq_true h1))];rfl,rfl⟩
     ·conv=>whnf
      refine C4 (fun h2=>?_) (fun h2=>?_)<;>rw [h2]
      ·conv=>whnf
       exact ⟨by rw [bad (.inr (of_decide_eq_true h2))];rfl,rfl⟩
      ·conv=>whnf
       refine ⟨rfl,?_⟩;conv=>whnf
       have:=of_decide_eq_false h1
       have:=of_decide_eq_false h2
       exact nx hi' ⟨⟨by rw [eu];omega,by omega⟩,⟨by rw [eg];omega,by omega⟩,by rw [C2 (by omega)],rfl⟩
  ·have hi':=H0 h
   have n3:=A1L (l.getD (i:Int).toNat default).price 1000000000 st'
   have yes:lineC (l.getD (i:Int).toNat default)=true→∀ k,k<i+1→lineC (l.getD k default)=true:=fun h=>L9 hok h
   have no:lineC (l.getD (i:Int).toNat default)=false→J3 (fun _=>true) l=2:=fun h=>by
    rw [hc,A3k hi' (fun k hk=>by unfold I4;rw [hok k hk];rfl) (by unfold I4;rw [show lineC (l.getD i default)=false from h];rfl)]
    exact if_pos rfl
   have e:lineC (l.getD (i:Int).toNat default)=(!decide ((l.getD (i:Int).toNat default).qty<0)&&!decide ((l.getD (i:Int).toNat default).qty>100000)&&Q6 0 1000000000 (l.getD (i:Int).toNat default).price):=by
    unfold lineC;congr 1;unfold Q6;congr 1<;>(rw [←decide_not];exact decide_eq_decide.2 (by omega))
   rw [e] at yes no
   generalize Q6 0 1000000000 (l.getD (i:Int).toNat default).price=b3 at n3 yes no
   clear e hc
   repeat' ((conv=>whnf);first | refine ⟨rfl,⟨by omega,by omega⟩,?_⟩ | refine B3 n3 ?_ | cases b3 | (refine C4 (fun h=>?_) (fun h=>?_)<;>rw [h]))
   all_goals (conv=>whnf)
   all_goals first
    | (refine ⟨?_,rfl⟩;rw [no (by simp only [*,Bool.not_true,Bool.false_and,Bool.and_false])];rfl)
    | (refine ⟨rfl,?_⟩;conv=>whnf
       exact nx hi' ⟨yes (by simp only [*,Bool.not_false,Bool.and_true]),by rw [C2 (by omega)],rfl⟩)
theorem B5l {kn:E0→Bool} {l:List F5} (h:∀ x∈l,I4 kn x=false):J3 kn l=J3 (fun _=>true) l:=by
 unfold J3
 rw [List.find?_eq_none.2 fun x hx=>by rw [h x hx];simp,List.find?_eq_none.2 fun x hx=>by
  have:=h x hx
  simp only [I4,Bool.not_eq_false',Bool.and_eq_true] at this
  unfold I4;rw [this.2];simp]
theorem C0J (items:List Ab.Item) (l:List F5) (hi:Sm items.length) (hl:Sm l.length) (st:St):S P 86 [B1 4 E5 items,B1 3 F7 l] st fun v st'=>v=eI (J3 (known items) l)∧st'=st:=by
 refine A7 [] C0 mixed Tryz.func86 (by rfl) rfl rfl rfl ?_;conv=>whnf
 refine lp l.length [0,1,5] (fun i vs s=>(∀ k,k<i→I4 (known items) (l.getD k default)=false)∧vs=[B1 4 E5 items,B1 3 F7 l,eI i]∧s=st) ?_ ?_
 ·conv=>whnf
  exact ⟨fun k hk=>absurd hk (by omega),rfl,rfl⟩
 ·rintro i vs st' hi2 ⟨hok,rfl,rfl⟩
  conv=>whnf
  cases h:decide ((i:Int)<(l.length:Int))
  ·obtain rfl:=D7 h hi2
   conv=>whnf
   refine B3 (B6f l _) ?_;conv=>whnf
   rw [B5l (kn:=known items) fun x hx=>by obtain ⟨k,hk,rfl⟩:=F2 hx;exact hok k hk]
   exact ⟨rfl,rfl⟩
  ·have hi':=H0 h
   conv=>whnf
   refine C4 (fun h1=>?_) (fun h1=>?_)<;>rw [h1]
   ·have hs:l.length≤1000:=by have:=of_decide_eq_true h1;omega
    have hc:J3 (known items) l=match l.find? (I4 (known items)) with
     | some x=>if known items x.sku=true then 2 else 7
     | none=>if (decide (J6 l>100000)||decide (I2 l>10000000000000))=true then 5 else 0:=if_neg (by omega)
    have n1:=B7l items (l.getD (i:Int).toNat default).sku hi st'
    have n3:=A1L (l.getD (i:Int).toNat default).price 1000000000 st'
    have yes:I4 (known items) (l.getD (i:Int).toNat default)=false→∀ k,k<i+1→I4 (known items) (l.getD k default)=false:=fun h=>L9 hok h
    have no:I4 (known items) (l.getD (i:Int).toNat default)=true→J3 (known items) l=if known items (l.getD i default).sku=true then 2 else 7:=fun h=>by
     rw [hc,A3k hi' hok h]
    have e:I4 (known items) (l.getD (i:Int).toNat default)=!(!decide (X5 items (l.getD (i:Int).toNat default).sku<0)&&(!decide ((l.getD (i:Int).toNat default).qty<0)&&!decide ((l.getD (i:Int).toNat default).qty>100000)&&Q6 0 1000000000 (l.getD (i:Int).toNat default).price)):=by
     unfold I4 lineC known;congr 1;congr 1
     ·rw [←decide_not];exact decide_eq_decide.2 (by omega)
     ·congr 1;unfold Q6;congr 1<;>(rw [←decide_not];exact decide_eq_decide.2 (by omega))
    have e2:known items (l.getD i default).sku=!decide (X5 items (l.getD (i:Int).toNat default).sku<0):=by
     unfold known;rw [←decide_not];exact decide_eq_decide.2 (by rw [Int.toNat_natCast];omega)
    rw [e] at yes no
    rw [e2] at no
    generalize X5 items (l.getD (i:Int).toNat default).sku=F at *
    generalize Q6 0 1000000000 (l.getD (i:Int).toNat default).price=b3 at n3 yes no
    clear e e2 hc
    repeat' ((conv=>whnf);first | refine ⟨rfl,⟨by omega,by omega⟩,?_⟩ | refine B3 n1 ?_ | refine B3 n3 ?_ | cases b3 | (refine C4 (fun h=>?_) (fun h=>?_)<;>rw [h]))
    all_goals (conv=>whnf)
    all_goals first
     | (refine ⟨?_,rfl⟩;rw [no (by simp only [*,Bool.not_true,Bool.false_and,Bool.and_false,Bool.not_false]),if_neg (by simp only [*];simp)];rfl)
     | (refine ⟨?_,rfl⟩;rw [no (by simp only [*,Bool.not_true,Bool.false_and,Bool.and_false,Bool.not_false]),if_pos (by simp only [*,Bool.not_false])];rfl)
     | (refine ⟨rfl,?_⟩;conv=>whnf
        exact nx hi' ⟨yes (by simp only [*,Bool.not_false,Bool.and_true,Bool.not_true]),by rw [C2 (by omega)],rfl⟩)
   ·have:=of_decide_eq_false h1
    conv=>whnf
    refine B3 (B6f l _) ?_;conv=>whnf
    exact ⟨by rw [show J3 (known items) l=6 from if_pos (by omega),show J3 (fun _=>true) l=6 from if_pos (by omega)];rfl,rfl⟩
theorem C0O (l:List F5) (hl:l.length≤1000) (hok:∀ x∈l,lineC x=true) (hm:J3 (fun _=>true) l=0) (hN:(R8 l).length≤100000) (st:St):S P 87 [B1 3 F7 l] st fun v st'=>v=C9 (R8 l)∧st'=st:=by
 refine Z8 (ty:=152) ?_
 refine A7 [] C0 mixed Tryz.func87 (by rfl) rfl rfl rfl ?_;conv=>whnf
 refine B3 (B6f l _) ?_
 rw [hm];conv=>whnf
 refine lp l.length [0,3,4] (fun i vs s=>∃ sv,vs=[B1 3 F7 l,sv,eI i]∧G4 152 3 V8 (G3 l i) st sv s) ?_ ?_
 ·conv=>whnf
  exact ⟨.emp,rfl,G4.start _ _ _ _⟩
 ·rintro i vs st' hi ⟨sv,rfl,hc⟩
  conv=>whnf
  cases h:decide ((i:Int)<(l.length:Int))
  ·obtain rfl:=D7 h hi
   conv=>whnf
   exact hc
  ·have hi':=H0 h
   have hx:lineC (l.getD (i:Int).toNat default)=true:=hok _ (B5 hi')
   obtain ⟨⟨q0,q1⟩,_⟩:=(Z1 _).1 hx
   have hq:(l.getD (i:Int).toNat default).qty=((l.getD i default).qty.toNat:Int):=by rw [Int.toNat_natCast] at *;omega
   have hlt:=fun {j} (hj:j<(l.getD i default).qty.toNat)=>B0s hi' hj
   generalize hn:(l.getD i default).qty.toNat=n at *
   conv=>whnf
   refine lp n [0,3,4,5] (fun j vs s=>∃ sv,vs=[B1 3 F7 l,sv,eI i,eI j]∧G4 152 3 V8 (G3 l i++List.replicate j (lnU l i)) st sv s) ?_ ?_
   ·conv=>whnf
    exact ⟨sv,rfl,by rw [List.replicate_zero,List.append_nil];exact hc⟩
   ·clear hc
    rintro j vs s hj ⟨sv,rfl,hc⟩
    conv=>whnf
    refine ⟨rfl,⟨by omega,by omega⟩,?_⟩;conv=>whnf
    rw [hq]
    cases h:decide ((j:Int)<(n:Int))
    ·obtain rfl:=D7 h hj
     conv=>whnf
     refine ⟨rfl,?_⟩;conv=>whnf
     refine nx hi' ⟨sv,by rw [C2 (by omega)],?_⟩
     unfold G3;rw [hn];exact hc
    ·have hj':=H0 h
     have h5:=hlt hj'
     have h6:(G3 l l.length).length≤100000:=hN
     conv=>whnf
     refine ⟨rfl,⟨by omega,by omega⟩,?_⟩;conv=>whnf
     refine G4.app (q:=B8v) (y:=lnU l i) rfl rfl rfl rfl rfl rfl (by show (_+1) * 24≤140737488355328;omega) hc (fun sv' s' hc'=>?_);conv=>whnf
     refine ⟨rfl,?_⟩;conv=>whnf
     exact nx hj' ⟨sv',by rw [C2 (by omega)],by rw [List.replicate_succ',←List.append_assoc];exact hc'⟩
theorem C0M (items:List Ab.Item) (l:List F5) (hi:Sm items.length) (hl:l.length≤1000) (hk:∀ x∈l,known items x.sku=true) (st:St):S P 88 [B1 4 E5 items,B1 3 F7 l] st fun v st'=>v=B1 4 E5 (D1 items l)∧st'=st:=by
 refine Z8 (ty:=64) ?_
 refine A7 [] C0 mixed Tryz.func88 (by rfl) rfl rfl rfl ?_;conv=>whnf
 refine lp l.length [0,1,5,6] (fun i vs s=>∃ sv,vs=[B1 4 E5 items,B1 3 F7 l,sv,eI i]∧G4 64 4 E5 (D1 items (l.take i)) st sv s) ?_ ?_
 ·conv=>whnf
  exact ⟨.emp,rfl,G4.start _ _ _ _⟩
 ·rintro i vs st' hi2 ⟨sv,rfl,hc⟩
  conv=>whnf
  cases h:decide ((i:Int)<(l.length:Int))
  ·obtain rfl:=D7 h hi2
   rw [List.take_length] at hc;conv=>whnf
   exact hc
  ·have hi':=H0 h
   have hmem:l.getD (i:Int).toNat default∈l:=B5 hi'
   have hkn:=hk _ hmem
   simp only [known,decide_eq_true_eq] at hkn
   have hlt:=(A9n (fun x:Ab.Item=>x.sku.toList==(l.getD (i:Int).toNat default).sku.toList) items).2
   have hlen:(D1 items (l.take i)).length=i:=by unfold D1;rw [List.length_map,List.length_take];omega
   conv=>whnf
   refine ⟨rfl,⟨by omega,by omega⟩,?_⟩;conv=>whnf
   refine B3 (B7l items (l.getD (i:Int).toNat default).sku (by omega) _) ?_;conv=>whnf
   refine C4 (fun h1=>?_) (fun h1=>?_)
   ·exact absurd (of_decide_eq_true h1) (by omega)
   ·rw [h1];conv=>whnf
    refine ⟨rfl,⟨by omega,by omega⟩,?_⟩;conv=>whnf
    refine G4.app (q:=r64) (y:=items.getD (X5 items (l.getD (i:Int).toNat default).sku).toNat default) rfl rfl rfl rfl rfl rfl (by show (_+1) * 48≤140737488355328;omega) hc (fun sv' s' hc'=>?_);conv=>whnf
    refine ⟨rfl,?_⟩;conv=>whnf
    refine nx hi' ⟨sv',by rw [C2 (by omega)],?_⟩
    unfold D1 at hc' ⊢
    rw [A2B hi'];exact hc'
end Go.Proofs.YtbajhapmlfbelaaGreat
namespace Go.Proofs.YtbajhapmlfbelaaGreat
open Go Go.Ab
theorem A7T (l:List B2) (o:List Int):(L8 l o).Perm o:=by
 have h:=(A0E l o).map fun e:QE=>gI o e.2.toNat
 rw [List.map_map] at h
 have e:(List.range o.length).map ((fun e:QE=>gI o e.2.toNat) ∘ A9W l o)=o:=by
  refine List.ext_getElem (by simp) fun k h1 h2=>?_
  rw [List.getElem_map,List.getElem_range]
  show o.getD k default=_
  rw [List.getD_eq_getElem?_getD,List.getElem?_eq_getElem h2];rfl
 rw [e] at h;exact h
end Go.Proofs.YtbajhapmlfbelaaGreat
namespace Go.Proofs.YtbajhapmlfbelaaGreat
open Go Go.Ab
attribute [local irreducible] upd del
def C6 (v n:Int):Int:=v % 18446744073709551616 % n
theorem E7 (v:Int) {n:Int} (h:0<n):0≤C6 v n∧C6 v n<n:=⟨Int.emod_nonneg _ (by omega),Int.emod_lt_of_pos _ h⟩
theorem B7B (x:Int):IntKind.u64.wrap x=x % 18446744073709551616:=rfl
theorem C0r (v:Int) {n:Int} (h0:0<n) (h1:n≤9223372036854775807):IntKind.i64.wrap (Int.tmod (IntKind.u64.wrap v) (IntKind.u64.wrap n))=C6 v n:=by
 have h2:=E7 v h0
 have e1:IntKind.u64.wrap n=n:=by rw [B7B];omega
 have e2:Int.tmod (IntKind.u64.wrap v) n=C6 v n:=by rw [Int.tmod_eq_emod_of_nonneg (by rw [B7B];omega)];rfl
 rw [e1,e2,A8 (by omega) (by omega)]
theorem A0P (v n:Int) (h0:0<n) (h1:n≤9223372036854775807) (st:St):S P 60 [eI v,eI n] st fun r st'=>r=eI (C6 v n)∧st'=st:=by
 refine A7 [] C0 mixed Tryz.func60 (by rfl) rfl rfl rfl ?_;conv=>whnf
 rw [decide_eq_false (show ¬ IntKind.u64.wrap n=0 by rw [B7B];omega)];conv=>whnf
 refine ⟨?_,rfl⟩
 rw [←C0r v h0 h1];rfl
theorem M0 (v n:Int) (h0:0<n) (h1:n≤9223372036854775807) (st:St):S P 66 [eI v,eI n] st fun r st'=>r=eI (C6 v n)∧st'=st:=by
 refine A7 [] C0 mixed Tryz.func66 (by rfl) rfl rfl rfl ?_;conv=>whnf
 rw [decide_eq_false (show ¬ IntKind.u64.wrap n=0 by rw [B7B];omega)];conv=>whnf
 refine ⟨?_,rfl⟩
 rw [←C0r v h0 h1];rfl
def V7 (c:Int):E0:=B0S [IntKind.u8.wrap c]
def A0X (n:Int):E0:=V7 (97+C6 n 8)
def A4n (n:Int):E0:=V7 (120+C6 n 3)
def idN (n:Int):E0:=(⟨#[112]⟩:E0)++V7 (48+C6 n 10)
def A4c (n:Int):E0:=(⟨#[99]⟩:E0)++V7 (48+C6 n 3)
theorem B1G (c x:Int):IntKind.u8.wrap (c+IntKind.u8.wrap x)=IntKind.u8.wrap (c+x):=by
 show (c+x % 256) % 256=(c+x) % 256
 omega
theorem C1g (n:Int) (st:St):S P 72 [eI n] st fun r st'=>r=eS (A0X n)∧st'=st:=by
 refine A7 [] C0 mixed Tryz.func72 (by rfl) rfl rfl rfl ?_;conv=>whnf
 refine B3 (A0P n 8 (by decide) (by decide) _) ?_;conv=>whnf
 refine ⟨?_,rfl⟩
 show AV.str (B0S [IntKind.u8.wrap (97+IntKind.u8.wrap (C6 n 8))])=_
 rw [B1G];rfl
theorem A3K (n:Int) (st:St):S P 113 [eI n] st fun r st'=>r=eS (A4n n)∧st'=st:=by
 refine A7 [] C0 mixed Tryz.func113 (by rfl) rfl rfl rfl ?_;conv=>whnf
 refine B3 (A0P n 3 (by decide) (by decide) _) ?_;conv=>whnf
 refine ⟨?_,rfl⟩
 show AV.str (B0S [IntKind.u8.wrap (120+IntKind.u8.wrap (C6 n 3))])=_
 rw [B1G];rfl
theorem C8D (n:Int) (st:St):S P 231 [eI n] st fun r st'=>r=eS (idN n)∧st'=st:=by
 refine A7 [] C0 mixed Tryz.func231 (by rfl) rfl rfl rfl ?_;conv=>whnf
 refine B3 (A0P n 10 (by decide) (by decide) _) ?_;conv=>whnf
 refine ⟨?_,rfl⟩
 show AV.str ((⟨#[112]⟩:E0)++B0S [IntKind.u8.wrap (48+IntKind.u8.wrap (C6 n 10))])=_
 rw [B1G];rfl
theorem B9K (n:Int) (st:St):S P 71 [eI n] st fun r st'=>r=eS (A4c n)∧st'=st:=by
 refine A7 [] C0 mixed Tryz.func71 (by rfl) rfl rfl rfl ?_;conv=>whnf
 refine B3 (A0P n 3 (by decide) (by decide) _) ?_;conv=>whnf
 refine ⟨?_,rfl⟩
 show AV.str ((⟨#[99]⟩:E0)++B0S [IntKind.u8.wrap (48+IntKind.u8.wrap (C6 n 3))])=_
 rw [B1G];rfl
def B2A (s:E0):Nat→Int
 | 0=>s.size
 | i+1=>IntKind.i64.wrap (IntKind.i64.wrap (7 * B2A s i)+chr s i)
def A2M (s:E0):Int:=B2A s (min s.size 8)
theorem B9I (s:E0) (i:Nat):0≤chr s i∧chr s i<256:=by
 unfold chr;split
 ·rename_i h;have:=(s[i]'h).toNat_lt;omega
 ·omega
theorem A9I (s:E0) (st:St):S P 73 [eS s] st fun r st'=>r=eI (A2M s)∧st'=st:=by
 refine A7 [] C0 mixed Tryz.func73 (by rfl) rfl rfl rfl ?_;conv=>whnf
 refine lp (min s.size 8) [0,3,4] (fun i vs t=>vs=[eS s,eI (B2A s i),eI i]∧t=st) ?_ ?_
 ·conv=>whnf
  exact ⟨rfl,rfl⟩
 ·rintro i vs t hi ⟨rfl,rfl⟩
  conv=>whnf
  refine C4 (fun h1=>?_) (fun h1=>?_)<;>rw [h1]<;>simp only [decide_eq_true_eq,decide_eq_false_iff_not] at h1
  ·conv=>whnf
   refine C4 (fun h2=>?_) (fun h2=>?_)<;>rw [h2]<;>simp only [decide_eq_true_eq,decide_eq_false_iff_not] at h2
   ·have hi':i<min s.size 8:=by omega
    conv=>whnf
    refine C2v (i:=i) rfl (by omega) ?_;conv=>whnf
    refine ⟨rfl,?_⟩;conv=>whnf
    refine nx hi' ⟨?_,rfl⟩
    rw [C2 (by omega)]
    have hc:IntKind.i64.wrap (chr s i)=chr s i:=A8 (by have:=B9I s i;omega) (by have:=B9I s i;omega)
    show [eS s,eI (IntKind.i64.wrap (IntKind.i64.wrap (7 * B2A s i)+IntKind.i64.wrap (chr s i))),eI ((i+1:Nat):Int)]=_
    rw [hc];rfl
   ·obtain rfl:i=min s.size 8:=by omega
    conv=>whnf
    exact ⟨rfl,rfl⟩
  ·obtain rfl:i=min s.size 8:=by omega
   conv=>whnf
   exact ⟨rfl,rfl⟩
def B5A (r:F9):Bool:=decide ((r.items.length:Int)<60)&&decide ((r.promos.length:Int)<30)&&decide ((r.tax.zones.length:Int)<30)&&decide ((r.policy.order.length:Int)<30)&&decide ((r.policy.credit.length:Int)<30)
theorem C5m (r:F9) (st:St):S P 21 [I8 r] st fun v st'=>v=.bool (B5A r)∧st'=st:=by
 refine A7 [1] C0 mixed Tryz.func21 (by rfl) rfl rfl rfl ?_
 unfold B5A
 repeat' ((conv=>whnf);first | (refine C4 (fun h=>?_) (fun h=>?_)<;>rw [h]))
 all_goals (conv=>whnf)
 all_goals exact ⟨by simp only [Bool.true_and,Bool.false_and];rfl,rfl⟩
def A4Z (l:List E0) (most:Nat) (kinds:Int) (name:Int→E0) (out:List E0) (k:Nat):List E0 :=
 if (decide (out.length<most)&&(l.take 4).any fun s=>C6 (A2M s) kinds==k)=true then out++[name k] else out
def P7 (l:List E0) (most:Nat) (kinds:Int) (name:Int→E0) (k:Nat):List E0:=(List.range k).foldl (A4Z l most kinds name) []
theorem A5a (l:List E0) (most:Nat) (kinds:Int) (name:Int→E0) (k:Nat):P7 l most kinds name (k+1)=A4Z l most kinds name (P7 l most kinds name k) k:=by
 unfold P7;rw [List.range_succ,List.foldl_append];rfl
theorem B6o (l:List E0) (most:Nat) (kinds:Int) (name:Int→E0) (k:Nat):(P7 l most kinds name k).length≤k:=by
 induction k with
 | zero=>exact Nat.le_refl _
 | succ k ih =>
  rw [A5a];unfold A4Z
  split
  ·rw [List.length_append];show _+1≤_;omega
  ·omega
theorem B6p (l:List E0) (most kinds:Nat) (name:Int→E0) (g:FuncId) (hk:0<kinds) (hk2:kinds≤100) (hg:∀ (n:Int) (st:St),S P g [eI n] st fun v st'=>v=eS (name n)∧st'=st) (st:St) :
  S P 70 [D6 l,eI most,eI kinds,.fn (.func g) [] []] st fun v st'=>v=D6 (P7 l most kinds name kinds)∧st'=st:=by
 refine Z8 (ty:=9) ?_
 refine A7 [] C0 mixed Tryz.func70 (by rfl) rfl rfl rfl ?_;conv=>whnf
 refine lp kinds [0,1,2,3,9,10] (fun k vs s=>∃ sv,vs=[D6 l,eI most,eI kinds,.fn (.func g) [] [],sv,eI k]∧G4 9 1 eS (P7 l most kinds name k) st sv s) ?_ ?_
 ·conv=>whnf
  exact ⟨.emp,rfl,G4.start _ _ _ _⟩
 ·rintro k vs s hk1 ⟨sv,rfl,hc⟩
  conv=>whnf
  cases hd:decide ((k:Int)<(kinds:Int))
  ·obtain rfl:=D7 hd hk1
   conv=>whnf
   exact hc
  ·have hk':=H0 hd
   have hlen:=B6o l most kinds name k
   have hS:=A5a l most kinds name k
   unfold A4Z at hS;conv=>whnf
   refine lp (min l.length 4) [0,1,2,3,9,10,11] (fun i vs t=>(∀ j,j<i→(C6 (A2M (l.getD j default)) kinds==k)=false)∧vs=[D6 l,eI most,eI kinds,.fn (.func g) [] [],sv,eI k,eI i]∧t=s) ?_ ?_
   ·conv=>whnf
    exact ⟨fun j hj=>absurd hj (by omega),rfl,rfl⟩
   ·rintro i vs t hi ⟨hok,rfl,rfl⟩
    have hstop:i=min l.length 4→((l.take 4).any fun s=>C6 (A2M s) kinds==k)=false:=fun e=>by
     refine List.any_eq_false.2 fun x hx=>?_
     obtain ⟨j,hj,rfl⟩:=F2 hx
     rw [List.length_take] at hj
     rw [show (l.take 4).getD j default=l.getD j default by rw [List.getD_eq_getElem?_getD,List.getD_eq_getElem?_getD,List.getElem?_take_of_lt (by omega)],hok j (by omega)]
     simp
    have hsv:(sv=.emp∧(P7 l most kinds name k).length=0)∨∃ b,sv=.own 1 b 0 (P7 l most kinds name k).length:=by
     rcases hc with ⟨h0,h1,_⟩ | ⟨_,b,_,_,h1,_⟩
     ·exact .inl ⟨h1,h0⟩
     ·exact .inr ⟨b,h1⟩
    have hrun:∀ {t':St} {sv':AV},G4 9 1 eS (P7 l most kinds name (k+1)) st sv' t'→∃ sv,[D6 l,eI most,eI kinds,.fn (.func g) [] [],sv',eI (IntKind.i64.wrap ((k:Int)+1))]=[D6 l,eI most,eI kinds,.fn (.func g) [] [],sv,eI ((k+1:Nat):Int)]∧G4 9 1 eS (P7 l most kinds name (k+1)) st sv t':=fun {t' sv'} h=>⟨sv',by rw [C2 (by omega)],h⟩
    conv=>whnf
    refine C4 (fun h1=>?_) (fun h1=>?_)<;>rw [h1]<;>simp only [decide_eq_true_eq,decide_eq_false_iff_not] at h1
    ·conv=>whnf
     refine C4 (fun h2=>?_) (fun h2=>?_)<;>rw [h2]<;>simp only [decide_eq_true_eq,decide_eq_false_iff_not] at h2
     ·have hi':i<min l.length 4:=by omega
      rcases hsv with ⟨rfl,hl0⟩ | ⟨b,rfl⟩
      all_goals
       conv=>whnf
       refine C4 (fun h3=>?_) (fun h3=>?_)<;>rw [h3]<;>simp only [decide_eq_true_eq,decide_eq_false_iff_not] at h3
       ·conv=>whnf
        refine ⟨rfl,⟨by omega,by omega⟩,?_⟩;conv=>whnf
        refine B3 (A9I _ _) ?_;conv=>whnf
        refine B3 (A0P _ (kinds:Int) (by omega) (by omega) _) ?_;conv=>whnf
        cases h4:(C6 (A2M (l.getD (i:Int).toNat default)) (kinds:Int)==(k:Int))
        ·conv=>whnf
         refine ⟨rfl,?_⟩;conv=>whnf
         exact nx hi' ⟨L9 hok h4,by rw [C2 (by omega)],rfl⟩
        ·have hm:(decide ((P7 l most kinds name k).length<most)&&(l.take 4).any fun s=>C6 (A2M s) kinds==k)=true:=by
          rw [Bool.and_eq_true,decide_eq_true_eq,List.any_eq_true]
          refine ⟨by omega,l.getD (i:Int).toNat default,?_,h4⟩
          rw [show l.getD (i:Int).toNat default=(l.take 4).getD i default by rw [List.getD_eq_getElem?_getD,List.getD_eq_getElem?_getD,List.getElem?_take_of_lt (by omega)];rfl]
          exact B5 (by rw [List.length_take];omega)
         rw [if_pos hm] at hS;conv=>whnf
         refine B3 (hg _ _) ?_;conv=>whnf
         refine G4.app (q:=r9) rfl rfl rfl rfl rfl (by rfl) (by show ((P7 l most kinds name k).length+1) * 16≤140737488355328;omega) hc (fun sv' t' hc'=>?_);conv=>whnf
         refine ⟨rfl,?_⟩;conv=>whnf
         exact nx hk' (hrun (by rw [hS];exact hc'))
       ·rw [if_neg (by rw [decide_eq_false (by omega)];simp)] at hS;conv=>whnf
        refine ⟨rfl,?_⟩;conv=>whnf
        exact nx hk' (hrun (by rw [hS];exact hc))
     ·rw [if_neg (by rw [hstop (by omega)];simp)] at hS;conv=>whnf
      refine ⟨rfl,?_⟩;conv=>whnf
      exact nx hk' (hrun (by rw [hS];exact hc))
    ·rw [if_neg (by rw [hstop (by omega)];simp)] at hS;conv=>whnf
     refine ⟨rfl,?_⟩;conv=>whnf
     exact nx hk' (hrun (by rw [hS];exact hc))
def O3 (s:O5):O5:=⟨P7 s.skus 3 8 A0X 8,P7 s.cats 2 3 A4n 3⟩
theorem B4t (s:O5) (st:St):S P 232 [J8 s] st fun v st'=>v=J8 (O3 s)∧st'=st:=by
 have h1:=fun st=>B6p s.skus 3 8 A0X 72 (by decide) (by decide) C1g st
 have h2:=fun st=>B6p s.cats 2 3 A4n 113 (by decide) (by decide) A3K st
 unfold O3
 generalize P7 s.skus 3 8 A0X 8=a at h1 ⊢
 generalize P7 s.cats 2 3 A4n 3=b at h2 ⊢
 refine A2E ?_
 refine A7 [1] C0 mixed Tryz.func232 (by rfl) rfl rfl rfl ?_;conv=>whnf
 intro b2 hb;conv=>whnf
 refine ⟨[7],[],List.range 8,by kernel_rfl,?_⟩;conv=>whnf
 refine ⟨_,D2 (h1 _),?_⟩;conv=>whnf
 refine ⟨_,D2 (h2 _),?_⟩;conv=>whnf
 refine J7 (A0 ..) rfl (by omega) rfl (by rfl) ?_;conv=>whnf
 refine E9 (A0 ..) rfl (by omega) (A5 ..) ?_;conv=>whnf
 exact ⟨rfl,((F3.refl st).upd hb).over hb⟩
def W7 (l:List E0):List E0:=P7 l 3 3 A4c 3
theorem B4i (l:List E0) (st:St):S P 16 [D6 l] st fun v st'=>v=D6 (W7 l)∧st'=st:=by
 refine A7 [] C0 mixed Tryz.func16 (by rfl) rfl rfl rfl ?_;conv=>whnf
 refine B3 (B6p l 3 3 A4c 71 (by decide) (by decide) B9K _) ?_;conv=>whnf
 exact ⟨rfl,rfl⟩
def A0S (x:F5):F5:=⟨A0X (A2M x.sku),C6 x.qty 10,C6 x.price 4000⟩
def A0C (l:List F5):List F5:=(l.take 8).map A0S
theorem C2J (l:List F5) (st:St):S P 17 [B1 3 F7 l] st fun v st'=>G4 51 3 F7 (A0C l) st v st':=by
 refine A7 [] C0 mixed Tryz.func17 (by rfl) rfl rfl rfl ?_;conv=>whnf
 refine lp (min l.length 8) [0,3,4] (fun i vs s=>∃ sv,vs=[B1 3 F7 l,sv,eI i]∧G4 51 3 F7 ((l.take i).map A0S) st sv s) ?_ ?_
 ·conv=>whnf
  exact ⟨.emp,rfl,G4.start _ _ _ _⟩
 ·rintro i vs s hi ⟨sv,rfl,hc⟩
  have hfin:i=min l.length 8→G4 51 3 F7 (A0C l) st sv s:=fun e=>by
   have:A0C l=(l.take i).map A0S:=by
    unfold A0C
    rcases Nat.le_total l.length 8 with h | h
    ·rw [show i=l.length by omega,List.take_length,List.take_of_length_le h]
    ·rw [show i=8 by omega]
   rw [this];exact hc
  conv=>whnf
  refine C4 (fun h1=>?_) (fun h1=>?_)<;>rw [h1]<;>simp only [decide_eq_true_eq,decide_eq_false_iff_not] at h1
  ·conv=>whnf
   refine C4 (fun h2=>?_) (fun h2=>?_)<;>rw [h2]<;>simp only [decide_eq_true_eq,decide_eq_false_iff_not] at h2
   ·have hi':i<min l.length 8:=by omega
    conv=>whnf
    refine ⟨[21,22],[],List.range 24,by kernel_rfl,?_⟩;conv=>whnf
    refine ⟨rfl,⟨by omega,by omega⟩,?_⟩;conv=>whnf
    refine ⟨_,D2 (A9I _ _),?_⟩;conv=>whnf
    refine ⟨_,D2 (C1g _ _),?_⟩;conv=>whnf
    refine ⟨rfl,⟨by omega,by omega⟩,?_⟩;conv=>whnf
    refine ⟨_,D2 (A0P _ 10 (by decide) (by decide) _),?_⟩;conv=>whnf
    refine ⟨rfl,⟨by omega,by omega⟩,?_⟩;conv=>whnf
    refine ⟨_,D2 (M0 _ 4000 (by decide) (by decide) _),?_⟩;conv=>whnf
    refine G4.app (y:=A0S (l.getD (i:Int).toNat default)) (q:=r51) rfl rfl rfl rfl rfl (by rfl) (by show (((l.take i).map A0S).length+1) * 32≤140737488355328;rw [List.length_map,List.length_take];omega) hc (fun sv' t' hc'=>?_);conv=>whnf
    refine ⟨rfl,?_⟩;conv=>whnf
    refine nx hi' ⟨sv',by rw [C2 (by omega)],?_⟩
    rw [L2 (by omega),List.map_append];exact hc'
   ·conv=>whnf
    exact hfin (by omega)
  ·conv=>whnf
   exact hfin (by omega)
def O1 (l:List Ab.Item) (k:Nat):Ab.Item :=
 if k<l.length then ⟨A0X k,A4n (A2M (l.getD k default).cat),C6 (l.getD k default).price 4000,(l.getD k default).final&&k==7⟩ else ⟨A0X k,A4n k,100+37 * k,false⟩
def N3 (l:List Ab.Item):List Ab.Item:=(List.range 8).map (O1 l)
theorem A4J {α : Type} (f:Nat→α) (k:Nat):(List.range (k+1)).map f=(List.range k).map f++[f k]:=by rw [List.range_succ,List.map_append];rfl
theorem B4k (l:List Ab.Item) (st:St):S P 38 [B1 4 E5 l] st fun v st'=>v=B1 4 E5 (N3 l)∧st'=st:=by
 refine S.post (post:=fun v st'=>∃ base,F3 st base∧G4 64 4 E5 (N3 l) base v st') ?_ (fun v st' ⟨base,hs,hc⟩=>⟨_,st,⟨rfl,rfl⟩,hc.shift.trans (hs.shift _)⟩)
 refine A7 [] C0 mixed Tryz.func38 (by rfl) rfl rfl rfl ?_;conv=>whnf
 refine lp 8 [0,3,4] (fun k vs s=>∃ sv base,vs=[B1 4 E5 l,sv,eI k]∧F3 st base∧G4 64 4 E5 ((List.range k).map (O1 l)) base sv s) ?_ ?_
 ·conv=>whnf
  exact ⟨.emp,st,rfl,F3.refl _,G4.start _ _ _ _⟩
 ·rintro k vs s hk ⟨sv,base,rfl,hsup,hc⟩
  conv=>whnf
  refine C4 (fun h1=>?_) (fun h1=>?_)<;>rw [h1]<;>simp only [decide_eq_true_eq,decide_eq_false_iff_not] at h1
  ·have hk':k<8:=by omega
   have hnext:=A4J (O1 l) k
   have hlen:((List.range k).map (O1 l)).length=k:=by rw [List.length_map,List.length_range]
   have w1:IntKind.i64.wrap (100+IntKind.i64.wrap (37 * (k:Int)))=100+37 * (k:Int):=by
    rw [A8 (x:=37 * (k:Int)) (by omega) (by omega),A8 (by omega) (by omega)]
   conv=>whnf
   refine B3 (C1g _ _) ?_;conv=>whnf
   refine B3 (A3K _ _) ?_;conv=>whnf
   intro b hb;conv=>whnf
   refine J7 (A0 ..) rfl (by omega) rfl (by rfl) ?_
   rw [B8]
   have hbb:base b=none:=H9.off hc hb
   have hc1:=fun y=>H9.under (y:=y) hc hb
   have hend:∀ {t:St} {Y:Q3} {x:AV} {g:Nat→AV} {K:KK},t=upd s b Y→Y5 4 t x=some (1,g)→g 0=E5 (O1 l k)→(∀ sv' t',G4 64 4 E5 ((List.range (k+1)).map (O1 l)) (upd base b Y) sv' t'→K sv' t')→A5h T 22 sv x t K:=fun {t Y x g K} e hs hg hk=>by
    subst e
    refine G4.app (q:=r64) rfl rfl rfl rfl hs hg (by rw [hlen];show (k+1) * 48≤140737488355328;omega) (hc1 Y) (fun sv' t' hc'=>hk sv' t' ?_)
    rw [hnext];exact hc'
   conv=>whnf
   refine C4 (fun h2=>?_) (fun h2=>?_)<;>rw [h2]<;>simp only [decide_eq_true_eq,decide_eq_false_iff_not] at h2
   ·have hi:k<l.length:=by omega
    have hp:O1 l k=⟨A0X k,A4n (A2M (l.getD (k:Int).toNat default).cat),C6 (l.getD (k:Int).toNat default).price 4000,(l.getD (k:Int).toNat default).final&&k==7⟩:=by unfold O1;rw [if_pos hi];rfl
    conv=>whnf
    refine ⟨[23,25,27],[],List.range 28,by kernel_rfl,?_⟩;conv=>whnf
    refine ⟨rfl,⟨by omega,by omega⟩,?_⟩;conv=>whnf
    refine ⟨_,D2 (A9I _ _),?_⟩;conv=>whnf
    refine ⟨_,D2 (A3K _ _),?_⟩;conv=>whnf
    refine ⟨rfl,⟨by omega,by omega⟩,?_⟩;conv=>whnf
    refine ⟨_,D2 (M0 _ 4000 (by decide) (by decide) _),?_⟩;conv=>whnf
    refine ⟨rfl,⟨by omega,by omega⟩,?_⟩;conv=>whnf
    refine C4 (fun h3=>?_) (fun h3=>?_)<;>rw [h3] at hp ⊢
    all_goals
     conv=>whnf
     refine J7 (A0 ..) rfl (by omega) (A5 ..) (by rfl) ?_
     rw [B8];conv=>whnf
     refine J7 (A0 ..) rfl (by omega) (A5 ..) (by rfl) ?_
     rw [B8];conv=>whnf
     refine J7 (A0 ..) rfl (by omega) (A5 ..) (by rfl) ?_
     rw [B8];conv=>whnf
     refine E9 (A0 ..) rfl (by omega) (A5 ..) ?_;conv=>whnf
     refine hend rfl rfl (by rw [hp];first | rfl | (have e7:((k:Int)==7)=(k==7):=by rw [Bool.eq_iff_iff,beq_iff_eq,beq_iff_eq];omega
                                                    rw [Bool.true_and,←e7];rfl)) (fun sv' t' hc'=>?_)
     conv=>whnf
     refine ⟨rfl,?_⟩;conv=>whnf
     exact nx hk' ⟨sv',_,by rw [C2 (by omega)],hsup.upd hbb,hc'⟩
   ·have hi:¬ k<l.length:=by omega
    have hp:O1 l k=⟨A0X k,A4n k,100+37 * k,false⟩:=by unfold O1;rw [if_neg hi]
    conv=>whnf
    refine E9 (A0 ..) rfl (by omega) (A5 ..) ?_;conv=>whnf
    refine hend rfl rfl (by rw [hp];show AV.agg _=_;rw [w1];rfl) (fun sv' t' hc'=>?_);conv=>whnf
    refine ⟨rfl,?_⟩;conv=>whnf
    exact nx hk' ⟨sv',_,by rw [C2 (by omega)],hsup.upd hbb,hc'⟩
  ·obtain rfl:k=8:=by omega
   conv=>whnf
   exact ⟨base,hsup,hc⟩
def A4G (l:List Int) (out:List Int) (i:Nat):List Int:=if (out.any fun y=>y==1+C6 (gI l i) 5)=true then out else out++[1+C6 (gI l i) 5]
def O7 (l:List Int) (n:Nat):List Int:=(List.range n).foldl (A4G l) []
theorem A4H (l:List Int) (n:Nat):O7 l (n+1)=A4G l (O7 l n) n:=by unfold O7;rw [List.range_succ,List.foldl_append];rfl
theorem A9q (l:List Int) (n:Nat):(O7 l n).length≤n:=by
 induction n with
 | zero=>exact Nat.le_refl _
 | succ n ih =>
  rw [A4H];unfold A4G
  split
  ·omega
  ·rw [List.length_append];show _+1≤_;omega
def K0 (l:List Int):List Int:=O7 l (min l.length 6)
theorem B0F (l:List Int) (k:Int) (j:Nat) (hj:j<l.length):((l.take (j+1)).any fun y=>y==k)=((l.take j).any (fun y=>y==k)||(gI l j==k)):=by
 rw [L2 hj,List.any_append];simp
theorem A8i (l:List Int) (st:St):S P 69 [B6 l] st fun v st'=>v=B6 (K0 l)∧st'=st:=by
 refine Z8 (ty:=3) ?_
 refine A7 [] C0 mixed Tryz.func69 (by rfl) rfl rfl rfl ?_;conv=>whnf
 refine lp (min l.length 6) [0,3,4] (fun i vs s=>∃ sv,vs=[B6 l,sv,eI i]∧G4 3 1 eI (O7 l i) st sv s) ?_ ?_
 ·conv=>whnf
  exact ⟨.emp,rfl,G4.start _ _ _ _⟩
 ·rintro i vs s hi ⟨sv,rfl,hc⟩
  have hlen:=A9q l i
  have hfin:i=min l.length 6→G4 3 1 eI (K0 l) st sv s:=fun e=>by unfold K0;rw [←e];exact hc
  conv=>whnf
  refine C4 (fun h1=>?_) (fun h1=>?_)<;>rw [h1]<;>simp only [decide_eq_true_eq,decide_eq_false_iff_not] at h1
  ·conv=>whnf
   refine C4 (fun h2=>?_) (fun h2=>?_)<;>rw [h2]<;>simp only [decide_eq_true_eq,decide_eq_false_iff_not] at h2
   ·have hi':i<min l.length 6:=by omega
    have hK:=A4H l i
    unfold A4G at hK
    have hm:=E7 (gI l (i:Int).toNat) (n:=5) (by decide)
    have hw:IntKind.i64.wrap (1+C6 (gI l (i:Int).toNat) 5)=1+C6 (gI l i) 5:=A8 (by omega) (by omega)
    conv=>whnf
    refine ⟨rfl,⟨by omega,by omega⟩,?_⟩;conv=>whnf
    refine B3 (A0P _ 5 (by decide) (by decide) _) ?_;conv=>whnf
    rw [hw]
    generalize hkk:1+C6 (gI l i) 5=k at hK
    have hcases:(sv=.emp∧O7 l i=[])∨∃ b g,sv=.own 1 b 0 (O7 l i).length∧s b=some ⟨3,1,(O7 l i).length,g⟩∧∀ j,j<(O7 l i).length→g j=eI (gI (O7 l i) j):=by
     rcases hc with ⟨h0,h3,_⟩ | ⟨_,b,g,_,h3,h4,h5⟩
     ·exact .inl ⟨h3,List.eq_nil_of_length_eq_zero h0⟩
     ·exact .inr ⟨b,g,h3,by rw [h4];exact A0 ..,h5⟩
    refine lp (O7 l i).length [0,3,4,5,6,7] (fun j vs t=>vs=[B6 l,sv,eI i,eI k,eB (((O7 l i).take j).any fun y=>y==k),eI j]∧t=s) ?_ ?_
    ·conv=>whnf
     exact ⟨rfl,rfl⟩
    ·rintro j vs t hj ⟨rfl,rfl⟩
     rcases hcases with ⟨rfl,hnil⟩ | ⟨b,g,rfl,hb,hg⟩
     ·have hj0:j=0:=by rw [hnil] at hj;exact Nat.le_zero.1 hj
      subst hj0
      have hK2:O7 l (i+1)=O7 l i++[k]:=by rw [hK,if_neg (by rw [hnil];simp)]
      conv=>whnf
      refine G4.app (q:=r3) rfl rfl rfl rfl rfl (by rfl) (by show ((O7 l i).length+1) * 8≤140737488355328;omega) hc (fun sv' t' hc'=>?_);conv=>whnf
      refine ⟨rfl,?_⟩;conv=>whnf
      exact nx hi' ⟨sv',by rw [C2 (by omega)],by rw [hK2];exact hc'⟩
     ·conv=>whnf
      cases h3:decide ((j:Int)<((O7 l i).length:Int))
      ·obtain rfl:=D7 h3 hj
       conv=>whnf
       rw [List.take_length]
       cases h4:(O7 l i).any fun y=>y==k
       ·rw [if_neg (by rw [h4];simp)] at hK;conv=>whnf
        refine G4.app (q:=r3) rfl rfl rfl rfl rfl (by rfl) (by show ((O7 l i).length+1) * 8≤140737488355328;omega) hc (fun sv' t' hc'=>?_);conv=>whnf
        refine ⟨rfl,?_⟩;conv=>whnf
        exact nx hi' ⟨sv',by rw [C2 (by omega)],by rw [hK];exact hc'⟩
       ·rw [if_pos h4] at hK;conv=>whnf
        refine ⟨rfl,?_⟩;conv=>whnf
        exact nx hi' ⟨_,by rw [C2 (by omega)],by rw [hK];exact hc⟩
      ·have hj':=H0 h3
       have hsucc:=B0F (O7 l i) k j hj'
       conv=>whnf
       cases h4:((O7 l i).take j).any fun y=>y==k
       ·rw [h4,Bool.false_or] at hsucc;conv=>whnf
        refine ⟨rfl,⟨by omega,by omega⟩,?_⟩;conv=>whnf
        refine E9 hb rfl (by omega) (v:=eI (gI (O7 l i) (j:Int).toNat)) (by rw [Nat.zero_add];exact hg _ (by omega)) ?_;conv=>whnf
        refine ⟨rfl,?_⟩;conv=>whnf
        refine nx hj' ⟨?_,rfl⟩
        rw [C2 (by omega),hsucc];rfl
       ·rw [h4,Bool.true_or] at hsucc;conv=>whnf
        refine ⟨rfl,?_⟩;conv=>whnf
        refine nx hj' ⟨?_,rfl⟩
        rw [C2 (by omega),hsucc]
   ·conv=>whnf
    exact hfin (by omega)
  ·conv=>whnf
   exact hfin (by omega)
def A9N (x:Y8) (least:Int):Y8:=⟨least,C6 x.rate 4000,1+C6 x.amount 300⟩
def O4 (l:List Y8) (step:Int):Nat→List Y8×Int
 | 0=>([],0)
 | i+1=>((O4 l step i).1++[A9N (l.getD i default) ((O4 l step i).2+C6 (l.getD i default).least step)],(O4 l step i).2+C6 (l.getD i default).least step+1)
theorem A6v (l:List Y8) (step:Int) (i:Nat):(O4 l step i).1.length=i:=by
 induction i with
 | zero=>rfl
 | succ i ih=>show (_++[_]).length=_;rw [List.length_append,ih];rfl
theorem A7s (l:List Y8) {step:Int} (h:0<step) (i:Nat):0≤(O4 l step i).2∧(O4 l step i).2≤i * step:=by
 induction i with
 | zero=>exact ⟨Int.le_refl _,by show (0:Int)≤((0:Nat):Int) * step;rw [Int.natCast_zero,Int.zero_mul];omega⟩
 | succ i ih =>
  have hm:=E7 (l.getD i default).least h
  show 0≤(O4 l step i).2+C6 (l.getD i default).least step+1∧(O4 l step i).2+C6 (l.getD i default).least step+1≤_
  rw [show ((i+1:Nat):Int) * step=i * step+step by rw [Int.natCast_add,Int.add_mul];simp]
  omega
def N5 (l:List Y8) (step:Int):List Y8:=if l.length=0 then [⟨Int.tdiv step 2,1000,0⟩] else (O4 l step (min l.length 3)).1
theorem A8j (l:List Y8) (step:Int) (h0:0<step) (h1:step≤5000) (st:St):S P 233 [B1 3 L7 l,eI step] st fun v st'=>v=B1 3 L7 (N5 l step)∧st'=st:=by
 refine Z8 (ty:=250) ?_
 refine A7 [] C0 mixed Tryz.func233 (by rfl) rfl rfl rfl ?_;conv=>whnf
 refine lp (min l.length 3) [0,1,5,6,7] (fun i vs s=>∃ sv,vs=[B1 3 L7 l,eI step,sv,eI (O4 l step i).2,eI i]∧G4 250 3 L7 (O4 l step i).1 st sv s) ?_ ?_
 ·conv=>whnf
  exact ⟨.emp,rfl,G4.start _ _ _ _⟩
 ·rintro i vs s hi ⟨sv,rfl,hc⟩
  have hlen:=A6v l step i
  have hle:=A7s l h0 i
  have hip:(i:Int) * step≤3 * 5000:=Int.mul_le_mul (by omega) h1 (by omega) (by omega)
  have hsv:(i=0∧sv=.emp)∨(0<i∧∃ b,sv=.own 3 b 0 i):=by
   rcases hc with ⟨h2,h3,_⟩ | ⟨h2,b,_,_,h3,_⟩
   ·exact .inl ⟨by omega,h3⟩
   ·exact .inr ⟨by omega,b,by rw [h3,hlen]⟩
  have hw2:IntKind.i64.wrap (Int.tdiv step 2)=Int.tdiv step 2:=by
   rw [Int.tdiv_eq_ediv_of_nonneg (by omega)]
   exact A8 (by omega) (by omega)
  conv=>whnf
  refine C4 (fun h2=>?_) (fun h2=>?_)<;>rw [h2]<;>simp only [decide_eq_true_eq,decide_eq_false_iff_not] at h2
  case' refine_1 =>
   conv=>whnf
   refine C4 (fun h3=>?_) (fun h3=>?_)<;>rw [h3]<;>simp only [decide_eq_true_eq,decide_eq_false_iff_not] at h3
  case refine_1.refine_1 =>
   have hi':i<min l.length 3:=by omega
   have hm:=E7 (l.getD (i:Int).toNat default).least h0
   have hm2:=E7 (l.getD (i:Int).toNat default).amount (n:=300) (by decide)
   have e1:IntKind.i64.wrap ((O4 l step i).2+C6 (l.getD (i:Int).toNat default).least step)=(O4 l step i).2+C6 (l.getD (i:Int).toNat default).least step:=A8 (by omega) (by omega)
   have e2:IntKind.i64.wrap (1+C6 (l.getD (i:Int).toNat default).amount 300)=1+C6 (l.getD (i:Int).toNat default).amount 300:=A8 (by omega) (by omega)
   have e3:IntKind.i64.wrap ((O4 l step i).2+C6 (l.getD (i:Int).toNat default).least step+1)=(O4 l step i).2+C6 (l.getD (i:Int).toNat default).least step+1:=A8 (by omega) (by omega)
   conv=>whnf
   refine ⟨rfl,⟨by omega,by omega⟩,?_⟩;conv=>whnf
   refine B3 (M0 _ step h0 (by omega) _) ?_;conv=>whnf
   rw [e1]
   refine ⟨[16,17],[],List.range 19,by kernel_rfl,?_⟩;conv=>whnf
   refine ⟨rfl,⟨by omega,by omega⟩,?_⟩;conv=>whnf
   refine ⟨_,D2 (M0 _ 4000 (by decide) (by decide) _),?_⟩;conv=>whnf
   refine ⟨rfl,⟨by omega,by omega⟩,?_⟩;conv=>whnf
   refine ⟨_,D2 (M0 _ 300 (by decide) (by decide) _),?_⟩;conv=>whnf
   rw [e2]
   refine G4.app (y:=A9N (l.getD (i:Int).toNat default) ((O4 l step i).2+C6 (l.getD (i:Int).toNat default).least step)) (q:=C0H) rfl rfl rfl rfl rfl (by rfl) (by show ((O4 l step i).1.length+1) * 24≤140737488355328;omega) hc (fun sv' t' hc'=>?_);conv=>whnf
   rw [e3]
   refine ⟨rfl,?_⟩;conv=>whnf
   exact nx hi' ⟨sv',by rw [C2 (by omega)];rfl,hc'⟩
  all_goals
   have hie:i=min l.length 3:=by omega
   conv=>whnf
   rcases hsv with ⟨rfl,rfl⟩ | ⟨hp,b,rfl⟩
   ·have hl0:l.length=0:=by omega
    have hT:N5 l step=[⟨Int.tdiv step 2,1000,0⟩]:=by unfold N5;rw [if_pos hl0]
    rw [hT];conv=>whnf
    refine G4.app (y:=⟨Int.tdiv step 2,1000,0⟩) (q:=C0H) rfl rfl rfl rfl rfl (by show AV.agg [eI (IntKind.i64.wrap (Int.tdiv step 2)),eI 1000,eI 0]=_;rw [hw2];rfl) (by show (0+1) * 24≤140737488355328;omega) hc (fun sv' t' hc'=>?_);conv=>whnf
    exact hc'
   ·have hT:N5 l step=(O4 l step i).1:=by unfold N5;rw [if_neg (by omega),hie]
    rw [hT];conv=>whnf
    rw [show ((i:Int)==0)=false by rw [beq_eq_false_iff_ne];omega];conv=>whnf
    exact hc
theorem B4M (l:List E0) (most:Nat) (kinds:Int) (name:Int→E0) (k:Nat):∃ ks:List Nat,P7 l most kinds name k=ks.map (fun x:Nat=>name x)∧ks.Pairwise (·<·)∧(∀ x∈ks,x<k)∧ks.length≤most:=by
 induction k with
 | zero=>exact ⟨[],rfl,.nil,⟨fun x hx=>absurd hx List.not_mem_nil,Nat.zero_le _⟩⟩
 | succ k ih =>
  obtain ⟨ks,h1,h2,h3,h4⟩:=ih
  rw [A5a];unfold A4Z
  split
  ·rename_i hc
   rw [Bool.and_eq_true,decide_eq_true_eq,h1,List.length_map] at hc
   refine ⟨ks++[k],by rw [h1,List.map_append];rfl,List.pairwise_append.2 ⟨h2,List.pairwise_singleton _ _,fun a ha b hb=>by rw [List.mem_singleton] at hb;subst hb;exact h3 a ha⟩,fun x hx=>?_,by rw [List.length_append];show ks.length+1≤most;omega⟩
   rcases List.mem_append.1 hx with h | h
   ·have:=h3 x h;omega
   ·rw [List.mem_singleton] at h;omega
  ·exact ⟨ks,h1,h2,fun x hx=>by have:=h3 x hx;omega,h4⟩
theorem A6i {l:List E0} {most:Nat} {kinds:Int} {name:Int→E0} {k:Nat} (hn:∀ x:Nat,x<k→F1 (name x)=true) (hr:∀ x y:Nat,x<y→y<k→slt (name x) (name y)=true):A0b (P7 l most kinds name k)=true∧(P7 l most kinds name k).length≤most∧∀ s∈P7 l most kinds name k,s.size≤12:=by
 obtain ⟨ks,h1,h2,h3,h4⟩:=B4M l most kinds name k
 rw [h1]
 have hall:∀ s∈ks.map (fun x:Nat=>name x),F1 s=true:=fun s hs=>by
  obtain ⟨x,hx,rfl⟩:=List.mem_map.1 hs;exact hn x (h3 x hx)
 refine ⟨?_,by rw [List.length_map];exact h4,fun s hs=>?_⟩
 ·unfold A0b
  rw [Bool.and_eq_true,Bool.not_eq_true',List.any_eq_false]
  refine ⟨?_,fun s hs=>by rw [hall s hs];simp⟩
  unfold Y2
  rw [List.all_eq_true]
  intro j hj
  have hj:=List.mem_range.1 hj
  rw [List.length_map] at hj
  unfold L6
  rw [Bool.or_eq_true,beq_iff_eq]
  by_cases e:j=0
  ·exact .inl e
  ·refine .inr ?_
   have g:∀ i,i<ks.length→(ks.map (fun x:Nat=>name x)).getD i default=name (ks.getD i 0:Nat):=fun i hi=>by
    rw [List.getD_eq_getElem?_getD,List.getElem?_map,List.getElem?_eq_getElem hi,List.getD_eq_getElem?_getD,List.getElem?_eq_getElem hi];rfl
   rw [g _ (by omega),g _ hj]
   have gm:∀ i,i<ks.length→ks.getD i 0=ks[i]!:=fun i hi=>by rw [List.getD_eq_getElem?_getD,List.getElem?_eq_getElem hi,getElem!_pos ks i hi];rfl
   refine hr _ _ ?_ (h3 _ ?_)
   ·rw [gm _ (by omega),gm _ hj,getElem!_pos ks _ (by omega),getElem!_pos ks _ hj]
    exact List.pairwise_iff_getElem.1 h2 _ _ (by omega) hj (by omega)
   ·rw [gm _ hj,getElem!_pos ks _ hj];exact List.getElem_mem _
 ·have:=hall s hs
  unfold F1 at this
  simp only [Bool.and_eq_true,decide_eq_true_eq] at this
  exact this.1.2
theorem B8H:((List.range 8).all fun x=>F1 (A0X (x:Nat)))=true:=by kernel_rfl
theorem C1h:((List.range 8).all fun y=>(List.range y).all fun x=>slt (A0X (x:Nat)) (A0X (y:Nat)))=true:=by kernel_rfl
theorem B7I:((List.range 3).all fun x=>F1 (A4n (x:Nat)))=true:=by kernel_rfl
theorem B9G:((List.range 3).all fun y=>(List.range y).all fun x=>slt (A4n (x:Nat)) (A4n (y:Nat)))=true:=by kernel_rfl
theorem B5o:((List.range 3).all fun x=>F1 (A4c (x:Nat)))=true:=by kernel_rfl
theorem B7N:((List.range 3).all fun y=>(List.range y).all fun x=>slt (A4c (x:Nat)) (A4c (y:Nat)))=true:=by kernel_rfl
theorem B2L {name:Int→E0} {k:Nat} (h:((List.range k).all fun y=>(List.range y).all fun x=>slt (name (x:Nat)) (name (y:Nat)))=true) (x y:Nat) (hxy:x<y) (hy:y<k):slt (name x) (name y)=true :=
 List.all_eq_true.1 (List.all_eq_true.1 h y (List.mem_range.2 hy)) x (List.mem_range.2 hxy)
theorem B2u {name:Int→E0} {k:Nat} (h:((List.range k).all fun x=>F1 (name (x:Nat)))=true) (x:Nat) (hx:x<k):F1 (name x)=true:=List.all_eq_true.1 h x (List.mem_range.2 hx)
theorem A1V (s:O5):Y3 (O3 s)=true∧A0J (O3 s):=by
 obtain ⟨a1,a2,a3⟩:=A6i (l:=s.skus) (most:=3) (kinds:=8) (name:=A0X) (k:=8) (B2u B8H) (B2L C1h)
 obtain ⟨b1,b2,b3⟩:=A6i (l:=s.cats) (most:=2) (kinds:=3) (name:=A4n) (k:=3) (B2u B7I) (B2L B9G)
 unfold O3
 generalize P7 s.skus 3 8 A0X 8=A at a1 a2 a3 ⊢
 generalize P7 s.cats 2 3 A4n 3=B at b1 b2 b3 ⊢
 refine ⟨?_,?_⟩
 ·unfold Y3
  rw [a1,b1,decide_eq_true (show A.length≤20 by omega),decide_eq_true (show B.length≤20 by omega)];rfl
 ·exact ⟨by show A.length≤_;omega,by show B.length≤_;omega,fun x hx=>by have:=a3 x hx;show x.size≤_;omega,fun x hx=>by have:=b3 x hx;show x.size≤_;omega⟩
theorem B2D (l:List E0):R9 (W7 l)=true∧(W7 l).length≤3∧∀ s∈W7 l,s.size≤12:=by
 obtain ⟨a1,a2,a3⟩:=A6i (l:=l) (most:=3) (kinds:=3) (name:=A4c) (k:=3) (B2u B5o) (B2L B7N)
 unfold W7
 generalize P7 l 3 3 A4c 3=A at a1 a2 a3 ⊢
 refine ⟨?_,a2,a3⟩
 unfold A0b at a1
 rw [Bool.and_eq_true] at a1
 unfold R9
 rw [a1.1,a1.2,decide_eq_true (by omega)];rfl
theorem C5t (n:Int):C6 n 8=0∨C6 n 8=1∨C6 n 8=2∨C6 n 8=3∨C6 n 8=4∨C6 n 8=5∨C6 n 8=6∨C6 n 8=7:=by
 have:=E7 n (n:=8) (by decide);omega
theorem C1f (k:Nat) (h:k<8):A0X k=V7 (97+k):=by
 unfold A0X C6;congr 2;omega
theorem B1B (l:List Ab.Item):(N3 l).map Ab.Item.sku=[V7 97,V7 98,V7 99,V7 100,V7 101,V7 102,V7 103,V7 104]:=by
 unfold N3
 rw [List.map_map]
 have e:∀ k,k<8→(Ab.Item.sku ∘ O1 l) k=V7 (97+(k:Int)):=fun k hk=>by
  rw [←C1f k hk]
  show (O1 l k).sku=_
  unfold O1;split<;>rfl
 have:(List.range 8).map (Ab.Item.sku ∘ O1 l)=(List.range 8).map fun k:Nat=>V7 (97+(k:Int)):=List.map_congr_left fun k hk=>e k (List.mem_range.1 hk)
 rw [this];rfl
theorem A2V (l:List Ab.Item):(N3 l).length=8:=by unfold N3;rw [List.length_map,List.length_range]
theorem B8d (items:List Ab.Item) (s:E0):known items s=(items.map Ab.Item.sku).any fun y=>y.toList==s.toList:=by
 unfold known X5
 rw [A1p,List.any_map];rfl
theorem A9r (l:List Ab.Item) (n:Int):known (N3 l) (A0X n)=true:=by
 rw [B8d,B1B]
 unfold A0X
 rcases C5t n with h | h | h | h | h | h | h | h<;>rw [h]<;>kernel_rfl
theorem B4l (x:F5):(0≤(A0S x).qty∧(A0S x).qty≤9)∧0≤(A0S x).price∧(A0S x).price<4000:=by
 have h1:=E7 x.qty (n:=10) (by decide)
 have h2:=E7 x.price (n:=4000) (by decide)
 exact ⟨⟨h1.1,by show C6 x.qty 10≤9;omega⟩,h2.1,h2.2⟩
structure A3c (l:List F5):Prop where
 len:l.length≤8
 line:∀ x∈l,(0≤x.qty∧x.qty≤9)∧0≤x.price∧x.price<4000
 sku:∀ x∈l,∃ n,x.sku=A0X n
theorem B2E (l:List F5):A3c (A0C l):=by
 unfold A0C
 refine ⟨by rw [List.length_map,List.length_take];omega,fun x hx=>?_,fun x hx=>?_⟩
 ·obtain ⟨y,_,rfl⟩:=List.mem_map.1 hx;exact B4l y
 ·obtain ⟨y,_,rfl⟩:=List.mem_map.1 hx;exact ⟨A2M y.sku,rfl⟩
theorem A3c.lineC {l:List F5} (h:A3c l) {x:F5} (hx:x∈l):lineC x=true:=by
 have:=h.line x hx
 rw [Z1];omega
theorem C3e {l:List F5} (h1:∀ x∈l,(0≤x.qty∧x.qty≤9)∧0≤x.price∧x.price<4000):(0≤J6 l∧J6 l≤9 * l.length)∧0≤I2 l∧I2 l≤36000 * l.length:=by
 have:∀ (l:List F5) (a b:Int),(∀ x∈l,(0≤x.qty∧x.qty≤9)∧0≤x.price∧x.price<4000)→(a≤l.foldl (fun s x=>s+x.qty) a∧l.foldl (fun s x=>s+x.qty) a≤a+9 * l.length)∧b≤l.foldl (fun s x=>s+x.qty * x.price) b∧l.foldl (fun s x=>s+x.qty * x.price) b≤b+36000 * l.length:=by
  intro l
  induction l with
  | nil=>intro a b _;simp
  | cons y l ih =>
   intro a b h
   have hy:=h y (List.mem_cons_self ..)
   have h0:0≤y.qty * y.price:=Int.mul_nonneg hy.1.1 hy.2.1
   have h9:y.qty * y.price≤9 * 4000:=Int.mul_le_mul hy.1.2 (by omega) hy.2.1 (by omega)
   have:=ih (a+y.qty) (b+y.qty * y.price) fun x hx=>h x (List.mem_cons_of_mem _ hx)
   rw [List.foldl_cons,List.foldl_cons,List.length_cons]
   omega
 have:=this l 0 0 h1
 unfold J6 I2;omega
theorem B5C {kn:E0→Bool} {l:List F5} (h:∀ x∈l,kn x.sku=true∧lineC x=true):l.find? (I4 kn)=none:=by
 rw [List.find?_eq_none]
 intro x hx
 unfold I4
 rw [(h x hx).1,(h x hx).2];simp
theorem A3c.check {l:List F5} (h:A3c l) {kn:E0→Bool} (hk:∀ n,kn (A0X n)=true):J3 kn l=0:=by
 unfold J3
 have hl:=h.len
 have hs:=C3e h.line
 rw [if_neg (by omega),B5C fun x hx=>⟨by obtain ⟨n,hn⟩:=h.sku x hx;rw [hn];exact hk n,h.lineC hx⟩]
 show (if _ then (5:Int) else 0)=0
 rw [if_neg]
 rw [decide_eq_false (by omega),decide_eq_false (by omega)];decide
end Go.Proofs.YtbajhapmlfbelaaGreat
