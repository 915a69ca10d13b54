/- Part 22 of the proof: contracts of the functions that the law reaches -/
import Derived.Test.YthdimklenlikgaaGreatDw21
set_option maxRecDepth 100000
set_option linter.unusedVariables false
set_option linter.unusedSimpArgs false
namespace Go.Proofs.YthdimklenlikgaaGreat
open Go Go.Ab
attribute [local irreducible] upd del
def Q6 (pr:B1):Bool:=!(pr.kind==7)
def X6 (pr:B1):Bool:=pr.kind==7
def p1B (r:E8) (l:List F0) (o:List Int):PSt:=V7 (fun p=>p) (A3G (C8 r.items l)) Q6 r.promos ⟨R6 l,[],[]⟩ o
def K6 (p:PSt):Int:=A6 (E0 p.us)
def p2B (r:E8) (l:List F0) (p1:PSt) (o:List Int):PSt×Int:=V7 (fun a=>a.1) (R5 (K6 p1)) X6 r.promos (p1,Z7 r.ship (R6 l).length (K6 p1)) o
def U7 (r:E8) (l:List F0) (o1 o2:List Int):A3B:=⟨S9 l.length (p1B r l o1).us,K6 (p1B r l o1),(p2B r l (p1B r l o1) o2).2,(p2B r l (p1B r l o1) o2).1.deals⟩
theorem B7K {σ : Type} {px : σ→PSt} {step : σ→B1→σ} {sm:B1→Bool} {l:List B1} {Inv : σ→Nat→Prop} (hle:∀ a n,Inv a (n+1)→Inv a n) (hinv:∀ (a : σ) (n:Nat) (pr:B1),pr∈l→sm pr=true→Inv a (n+1)→Inv (step a pr) n) :
  ∀ (o:List Int) (a : σ) (n:Nat),(∀ x∈o,x.toNat<l.length)→Inv a (n+o.length)→Inv (V7 px step sm l a o) n:=by
 intro o
 unfold V7
 induction o with
 | nil=>intro a n _ h;exact h
 | cons x o ih =>
  intro a n hm h
  have hm':∀ y∈o,y.toNat<l.length:=fun y hy=>hm y (List.mem_cons_of_mem _ hy)
  have hx:D5 l x∈l:=B4 (hm x (List.mem_cons_self ..))
  have h':Inv a ((n+o.length)+1):=by rw [List.length_cons] at h;exact h
  by_cases hs:sm (D5 l x)=true
  ·rw [List.filter_cons_of_pos (p:=fun x=>sm (D5 l x)) hs,List.foldl_cons]
   refine ih _ _ hm' ?_
   unfold goB
   split
   ·exact hinv a _ _ hx hs h'
   ·exact hle _ _ h'
  ·rw [List.filter_cons_of_neg (p:=fun x=>sm (D5 l x)) hs]
   exact ih _ _ hm' (hle _ _ h')
def C1x (items:List Ab.Item) (us0:List B5) (p:PSt) (n:Nat):Prop:=A5L items p.us∧p.deals.length+n≤100∧p.groups.length+n≤100∧∃ x,Off us0 p.us x
def C3z (a:PSt×Int) (n:Nat):Prop:=a.1.deals.length+n≤200∧a.1.groups.length+n≤200∧0≤a.2∧a.2≤10000000000000
theorem B1o {items:List Ab.Item} {us0:List B5} {a:PSt} {n:Nat} {pr:B1} (hfit:O3 pr) (hright:H4 pr=true) (hk:Q6 pr=true) (h:C1x items us0 a (n+1)):C1x items us0 (A3G items a pr) n:=by
 obtain ⟨h1,h2,h3,x,h4⟩:=h
 obtain ⟨y,h5⟩:=B3s h1 hfit hright (by simpa [Q6] using hk)
 refine ⟨h1.off h5,?_,?_,x+y,h4.trans h5⟩
 ·unfold A3G;split
  ·simp only [A0O,List.length_append,List.length_cons,List.length_nil];omega
  ·omega
 ·unfold A3G;split
  ·simp only [A0O,List.length_append]
   split<;>simp<;>omega
  ·omega
theorem B1p {net:Int} {a:PSt×Int} {n:Nat} {pr:B1} (hright:H4 pr=true) (hk:X6 pr=true) (h:C3z a (n+1)):C3z (R5 net a pr) n:=by
 obtain ⟨h1,h2,h3,h4⟩:=h
 have hk7:pr.kind=7:=by simpa [X6] using hk
 have hr:=(A0T hright).ship hk7
 have hb:=Q2 a.2 pr.rate
 have hle:=A3X h3 (show 0≤pr.rate by omega) hr.2
 unfold R5 A5Y
 split
 ·exact ⟨by show a.1.deals.length+n≤200;omega,by show a.1.groups.length+n≤200;omega,h3,h4⟩
 ·refine ⟨?_,?_,by show 0≤a.2 - H9 a.2 pr.rate;omega,by show a.2 - H9 a.2 pr.rate≤_;omega⟩
  ·show (if H9 a.2 pr.rate>0 then A0O a.1 pr (H9 a.2 pr.rate) else a.1).deals.length+n≤200
   split
   ·simp only [A0O,List.length_append,List.length_cons,List.length_nil];omega
   ·omega
  ·show (if H9 a.2 pr.rate>0 then A0O a.1 pr (H9 a.2 pr.rate) else a.1).groups.length+n≤200
   split
   ·simp only [A0O,List.length_append]
    split<;>simp<;>omega
   ·omega
theorem PxR.deals' {bx:Nat} {items:List Ab.Item} {p:PSt} {s t:St} (h:PxR bx items p s t):∃ dv gv f,t bx=some ⟨153,4,1,f⟩∧f 0=.agg [A7 4 E3 items,C6 p.us,dv,gv] ∧
  ((p.deals=[]∧dv=.emp)∨∃ bd g,dv=.own 2 bd 0 p.deals.length∧s bd=none∧t bd=some ⟨140,2,p.deals.length,g⟩∧∀ k,k<p.deals.length→g k=A0K p.deals k):=by
 obtain ⟨⟨dv,gv⟩,h⟩:=h
 obtain ⟨y,⟨f,rfl,hf⟩,hy⟩:=A0Z.at (A2G _ _ _ _) h
 obtain ⟨hbx,_,_,hd⟩:=h
 obtain ⟨s0,hc,hg0⟩:=hd
 refine ⟨dv,gv,f,hy,hf,?_⟩
 rcases hc with ⟨h0,h1,rfl⟩ | ⟨h0,b,g0,hb,h1,rfl,hgg⟩
 ·exact .inl ⟨List.eq_nil_of_length_eq_zero h0,h1⟩
 ·refine .inr ⟨b,g0,h1,?_,(A6M _ _).sup hg0 b _ (A0 ..),hgg⟩
  by_cases e:b=bx
  ·subst e;rw [A0] at hb;cases hb
  ·rw [A8 e] at hb;exact hb
structure C1u (r:E8) (codes:List D7) (l:List F0):Prop where
 rules:O0 r=true
 codes:R8 codes=true
 lines:A6C r.items l
 few:r.promos.length≤60
 promo:∀ p∈r.promos,H4 p=true
 fee:0≤r.ship.fee∧r.ship.fee≤1000000000
theorem A8K {r:E8} {codes:List D7} {l:List F0} (h:D6 r codes l=0):C1u r codes l:=by
 unfold D6 at h
 split at h
 ·cases h
 ·rename_i h1
  split at h
  ·cases h
  ·rename_i h2
   have hr:O0 r=true:=by simpa using h1
   have hr':=hr
   unfold O0 at hr'
   simp only [Bool.and_eq_true] at hr'
   obtain ⟨⟨⟨⟨_,hp⟩,_⟩,hs⟩,_⟩:=hr'
   unfold promosC at hp
   simp only [Bool.and_eq_true,decide_eq_true_eq] at hp
   have hs':R7 0 1000000000 r.ship.fee=true:=by
    unfold A8q at hs
    simp only [Bool.and_eq_true] at hs
    exact hs.1
   refine ⟨hr,by simpa using h2,A8Q h,by omega,fun p hm=>?_,L1.1 hs'⟩
   obtain ⟨k,hk,rfl⟩:=F4 hm
   have:=B1c.1 hp.2 k hk
   unfold A0S at this
   simp only [Bool.and_eq_true] at this
   exact this.1
def C3F (r:E8) (codes:List D7) (l:List F0) (v:AV):Prop :=
 (D6 r codes l≠0∧v=.tuple [X0 ⟨[],0,0,[]⟩,eI (D6 r codes l)]) ∨
 (D6 r codes l=0∧∃ o1 o2,A8B r.promos codes o1∧A8B r.promos codes o2∧v=.tuple [X0 (U7 r l (L5 r.promos o1) (L5 r.promos o2)),eI 0])
theorem price_S {N:Nat} (hN:A3h N) (r:E8) (codes:List D7) (l:List F0) (hf:A0a r) (hc:codes.length≤Big) (hi:r.items.length≤4611686018427387904) (h20:(places r.promos codes r.promos.length).length≤N) (st:St) :
  S P 20 [J2 r,D3 codes,A7 3 E4 l] st fun v st'=>C3F r codes l v∧st'=st:=by
 refine S.post (post:=fun v st'=>(D6 r codes l≠0∧v=.tuple [.agg [.emp,eI 0,eI 0,.emp],eI (D6 r codes l)]∧F2 st st') ∨
   (D6 r codes l=0∧∃ o1 o2 bn fn dv,A8B r.promos codes o1∧A8B r.promos codes o2∧v=.tuple [.agg [.own 1 bn 0 l.length,eI (U7 r l (L5 r.promos o1) (L5 r.promos o2)).net,eI (U7 r l (L5 r.promos o1) (L5 r.promos o2)).ship,dv],eI 0] ∧
    st bn=none∧st' bn=some ⟨2,1,l.length,fn⟩∧(∀ k,k<l.length→fn k=eI (gI (U7 r l (L5 r.promos o1) (L5 r.promos o2)).nets k))∧F2 st st' ∧
    (((U7 r l (L5 r.promos o1) (L5 r.promos o2)).deals=[]∧dv=.emp)∨∃ bd g,dv=.own 2 bd 0 (U7 r l (L5 r.promos o1) (L5 r.promos o2)).deals.length∧st bd=none∧bd≠bn∧st' bd=some ⟨140,2,(U7 r l (L5 r.promos o1) (L5 r.promos o2)).deals.length,g⟩∧∀ k,k<(U7 r l (L5 r.promos o1) (L5 r.promos o2)).deals.length→g k=A0K (U7 r l (L5 r.promos o1) (L5 r.promos o2)).deals k))) ?_
  (fun v st' hv=>by
   rcases hv with ⟨h1,rfl,hs⟩ | ⟨h1,o1,o2,bn,fn,dv,h2,h3,rfl,h4,h5,h6,hs,h7⟩
   ·refine ⟨_,st,⟨.inl ⟨h1,rfl⟩,rfl⟩,(hs.shift _).trans (B2.tuple (B2.cons (B2.agg ?_) (B2.keep _ _)) rfl)⟩
    exact B2.cons (K1 1 _) (B2.cons (B2.keep [eI 0] _) (B2.cons (B2.keep [eI 0] _) (K1 2 _)))
   ·refine ⟨_,st,⟨.inr ⟨h1,o1,o2,h2,h3,rfl⟩,rfl⟩,B2.tuple (B2.cons (B2.agg ?_) (B2.keep _ _)) rfl⟩
    have hnl:(U7 r l (L5 r.promos o1) (L5 r.promos o2)).nets.length=l.length:=by show (S9 _ _).length=_;unfold S9;rw [List.length_map,List.length_range]
    generalize U7 r l (L5 r.promos o1) (L5 r.promos o2)=X at *
    have e1:B3 X.nets=.arr 1 l.length (fun k=>eI (gI X.nets k)):=by unfold B3 A7;rw [hnl]
    refine B2.cons (t:=del st' bn) ?_ (B2.cons (B2.keep [eI X.net] _) (B2.cons (B2.keep [eI X.ship] _) ?_))
    ·rw [e1];exact K8 h5 rfl (Nat.le_refl _) h6
    ·rcases h7 with ⟨h8,rfl⟩ | ⟨bd,g,rfl,h8,h9,h10,h11⟩
     ·rw [h8]
      exact ((F2.del hs h4).shift _).trans (K1 2 _)
     ·refine (K8 (b:=bd) (y:=⟨140,2,X.deals.length,g⟩) (f:=A0K X.deals) (by rw [Z6 h9];exact h10) rfl (Nat.le_refl _) h11).trans ?_
      exact (F2.del (F2.del hs h4) h8).shift _)
 refine A5 [3,9,10,13] B7 mixed Tryz.func20 (by rfl) rfl rfl rfl ?_;conv=>whnf
 intro b6 hb6;conv=>whnf
 refine A4 (C0k r codes l hf hc hi _) ?_;conv=>whnf
 have h6s:∀ x:Q5,F2 st (upd st b6 x):=fun x=>(F2.refl st).upd hb6
 cases h1:(D6 r codes l != 0)
 ·have hk0:D6 r codes l=0:=by simpa using h1
  have hck:=A8K hk0
  have hln:=hck.lines
  have hlen:=hln.len
  have hus0:=B3e hln
  obtain ⟨u1,u2,u3⟩:=A1B l hln.line l.length (Nat.le_refl _)
  have hitl:(C8 r.items l).length=l.length:=List.length_map ..
  have hmo:=fun {o:List Int} (ho:A8B r.promos codes o)=>(show (L5 r.promos o).length≤60 by
   rw [List.length_map,A3V,ho.1.length_eq]
   have:=Q3 r.promos codes r.promos.length
   have:=hck.few;omega)
  conv=>whnf
  refine A4 (B7U r.items l hi hlen hln.known _) ?_;conv=>whnf
  refine A4 (C2U l hlen (fun x hx=>((Y8 x).1 (hln.line x hx)).1) hus0.ok.len hln.may _) ?_;conv=>whnf
  generalize hs6:(upd st b6 _)=s6 at *
  have h6:s6 b6=some ⟨44,4,1,fun _=>K3 r44.zero⟩:=by rw [←hs6];exact A0 ..
  have hBig:(Big:Nat)≤9223372036854775807:=by decide
  have hst6:F2 st s6:=by rw [←hs6];exact h6s _
  intro bx hbx;conv=>whnf
  have hP0:PxR bx (C8 r.items l) ⟨R6 l,[],[]⟩ s6 (upd s6 bx ⟨153,4,1,fun _=>.agg [A7 4 E3 (C8 r.items l),C6 (R6 l),.emp,.emp]⟩) :=
   PxR.mk' hbx rfl (ROut.start (ROut.start (F2.refl _) _ _ _) _ _ _)
  refine call (B7c (σ:=PSt) hN bx (C8 r.items l) (PxR bx (C8 r.items l)) (fun p=>p) (A3I bx (C8 r.items l)) (fun a s t t' h hs=>h.more hs) (fun a s t h=>⟨s,h⟩) r.promos codes hck.few (Nat.le_trans hc hBig) h20 86 [.fptr (.fn (.func 84) [] []) 0] Q6 (fun pr t=>C0d pr t)
   87 [.optr 4 bx 0 0] [] (A3G (C8 r.items l)) (C1x (C8 r.items l) (R6 l)) (fun a n h=>by have:=h.2.2.1;omega) (fun a n h=>⟨h.1,by have:=h.2.1;omega,by have:=h.2.2.1;omega,h.2.2.2⟩)
   (fun a n pr s t hm hs hI h=>C4S bx (C8 r.items l) a pr (hf.fit pr hm) (hck.promo pr hm) (by simpa [Q6] using hs) hI.1 (by have:=hI.2.1;omega) (by have:=hI.2.2.1;omega) s t h)
   (fun a n pr hm hs hI=>B1o (hf.fit pr hm) (hck.promo pr hm) hs hI) ⟨R6 l,[],[]⟩ ⟨hus0,by simp,by simp,0,Off.refl hus0.ok⟩ s6 _ hP0) (fun v t1 hv=>?_)
  obtain ⟨rfl,o1,ho1,hP1⟩:=hv
  have hp1:V7 (fun p=>p) (A3G (C8 r.items l)) Q6 r.promos ⟨R6 l,[],[]⟩ (L5 r.promos o1)=p1B r l (L5 r.promos o1):=rfl
  have hI1:C1x (C8 r.items l) (R6 l) (p1B r l (L5 r.promos o1)) 40:=B7K (fun a n h=>⟨h.1,by have:=h.2.1;omega,by have:=h.2.2.1;omega,h.2.2.2⟩) (fun a n pr hm hs hI=>B1o (hf.fit pr hm) (hck.promo pr hm) hs hI) (L5 r.promos o1) ⟨R6 l,[],[]⟩ 40 (fun x hx=>(B4u ho1 hx).2) ⟨hus0,by have:=hmo ho1;show 0+(40+(L5 r.promos o1).length)≤100;omega,by have:=hmo ho1;show 0+(40+(L5 r.promos o1).length)≤100;omega,0,Off.refl hus0.ok⟩
  rw [hp1] at hP1
  have hQ:∀ o2,U7 r l (L5 r.promos o1) (L5 r.promos o2)=⟨S9 l.length (p1B r l (L5 r.promos o1)).us,K6 (p1B r l (L5 r.promos o1)),(p2B r l (p1B r l (L5 r.promos o1)) (L5 r.promos o2)).2,(p2B r l (p1B r l (L5 r.promos o1)) (L5 r.promos o2)).1.deals⟩:=fun _=>rfl
  generalize p1B r l (L5 r.promos o1)=p1 at *
  obtain ⟨hus1,hd1,hg1,xoff,hoff⟩:=hI1
  have hul1:p1.us.length=(R6 l).length:=hoff.len
  have hu1:=hus1.ok
  have hul:=hu1.len
  have hus:=hu1.sum
  have hnet0:=C7 hu1.nets0
  have hBP:=A3I bx (C8 r.items l) p1
  conv=>whnf
  refine mkO rfl rfl rfl (by show 8 * l.length≤_;omega) (by omega) (by rfl) (fun bn hbn=>?_);conv=>whnf
  intro bp hbp
  have hnb:bn≠bp:=fun e=>by subst e;rw [A0] at hbp;cases hbp
  have hbp1:t1 bp=none:=by rw [A8 hnb.symm] at hbp;exact hbp
  have hbn6:s6 bn=none:=(hBP.sup hP1).none hbn
  have hbp6:s6 bp=none:=(hBP.sup hP1).none hbp1
  conv=>whnf
  refine K4 (A0 ..) rfl (by omega) rfl (by rfl) ?_;conv=>whnf
  -- the pricer,what the lines come to,what is made of it
  have hP2:=fun (Y Z:Q5)=>hBP.begin (y:=Z) (hBP.begin (y:=Y) hP1 hbn) (by rw [A8 hnb.symm];exact hbp1)
  have hload:∀ {Y Z:Q5} {t:St},PxR bx (C8 r.items l) p1 (upd (upd s6 bn Y) bp Z) t→t bn=some Y∧t bp=some Z:=fun h=>⟨hBP.sup h bn _ (by rw [A8 hnb,A0]),hBP.sup h bp _ (A0 ..)⟩
  have hwn:∀ {Y Z Y':Q5} {t:St},PxR bx (C8 r.items l) p1 (upd (upd s6 bn Y) bp Z) t→PxR bx (C8 r.items l) p1 (upd (upd s6 bn Y') bp Z) (upd t bn Y'):=fun {Y Z Y' t} h=>by
   have:=hBP.write (b:=bn) (y':=Y') h (by rw [A8 hnb,A0])
   rw [L0 hnb.symm,B6] at this;exact this
  have hwp:∀ {Y Z Z':Q5} {t:St},PxR bx (C8 r.items l) p1 (upd (upd s6 bn Y) bp Z) t→PxR bx (C8 r.items l) p1 (upd (upd s6 bn Y) bp Z') (upd t bp Z'):=fun {Y Z Z' t} h=>by
   have:=hBP.write (b:=bp) (y':=Z') h (A0 ..)
   rw [B6] at this;exact this
  have hP3:=hP2 ⟨2,1,l.length,fun _=>K3 r2.zero⟩ ⟨44,4,1,fun _=>K3 r44.zero⟩
  have hP4:=hwp (Z':=⟨44,4,1,G5 (fun _=>K3 r44.zero) 0 (.agg [.own 1 bn 0 l.length,eI 0,eI 0,.emp])⟩) hP3
  obtain ⟨dv1,gv1,fx1,hx1,hfx1,_,_⟩:=hP4.at
  refine E9 hx1 rfl (by omega) hfx1 ?_;conv=>whnf
  have hline:∀ k,k<p1.us.length→0≤(gU p1.us k).line∧(gU p1.us k).line.toNat<l.length:=fun k hk=>by
   have:=hus1.line _ (B4 hk)
   rw [hitl] at this;exact this
  refine ⟨[1,3,6,9,10,11,45,46,47],fun m vs t=>∃ (k:Nat) (fn fp:Nat→AV),k≤p1.us.length∧m=p1.us.length - k∧vs=[D3 codes,.fptr (J2 r) 0,.optr 4 b6 0 0,.fptr (.optr 4 bx 0 0) 0,.fptr (.fn (.func 84) [] []) 0,.optr 4 bp 0 0,C6 p1.us,eI p1.us.length,eI k] ∧
   PxR bx (C8 r.items l) p1 (upd (upd s6 bn ⟨2,1,l.length,fn⟩) bp ⟨44,4,1,fp⟩) t∧fp 0=.agg [.own 1 bn 0 l.length,eI (A6 ((E0 p1.us).take k)),eI 0,.emp]∧∀ j,j<l.length→fn j=eI (F6 (p1.us.take k) j),?_,?_⟩
  ·conv=>whnf
   exact ⟨_,0,_,_,Nat.zero_le _,rfl,rfl,hP4,A2 ..,fun j _=>rfl⟩
  ·clear hP4 hP3 hx1 hfx1 hP2
   rintro m vs t ⟨k,fn,fp,hk,rfl,rfl,hP,hfp,hfn⟩
   obtain ⟨htn,htp⟩:=hload hP
   conv=>whnf
   cases hd:decide ((k:Int)<(p1.us.length:Int))
   ·have:=of_decide_eq_false hd
    obtain rfl:k=p1.us.length:=by omega
    rw [List.take_length] at hfn
    have htk:(E0 p1.us).take p1.us.length=E0 p1.us:=by rw [←List.length_map (f:=B5.net),List.take_length]
    rw [htk] at hfp;conv=>whnf
    obtain ⟨dv1,gv1,fx1,hx1,hfx1,_,_⟩:=hP.at
    refine ⟨[11],[],[0,1,2,3,4,5,6,7,8,9,10,11],by kernel_rfl,?_⟩;conv=>whnf
    refine E9 hx1 rfl (by omega) hfx1 ?_;conv=>whnf
    refine E9 htp rfl (by omega) hfp ?_;conv=>whnf
    refine ⟨_,C9 (C4X r.ship p1.us.length (K6 p1) t),?_⟩;conv=>whnf
    refine K4 htp rfl (by omega) hfp (by rfl) ?_;conv=>whnf
    have hP5:=hwp (Z':=⟨44,4,1,G5 fp 0 (.agg [.own 1 bn 0 l.length,eI (K6 p1),eI (Z7 r.ship p1.us.length (K6 p1)),.emp])⟩) hP
    have hfee:0≤Z7 r.ship p1.us.length (K6 p1)∧Z7 r.ship p1.us.length (K6 p1)≤10000000000000:=by
     have:=hck.fee
     unfold Z7;split<;>omega
    generalize hfe:Z7 r.ship p1.us.length (K6 p1)=fee at *
    have hR2:R2 bx bp bn l.length (C8 r.items l) (K6 p1) (p1,fee) (upd s6 bn ⟨2,1,l.length,fn⟩) (upd t bp ⟨44,4,1,G5 fp 0 (.agg [.own 1 bn 0 l.length,eI (K6 p1),eI fee,.emp])⟩):=⟨by rw [A8 hnb.symm];exact hbp6,_,⟨_,rfl,A2 ..⟩,hP5⟩
    refine call (B7c (σ:=PSt×Int) hN bx (C8 r.items l) (R2 bx bp bn l.length (C8 r.items l) (K6 p1)) (fun a=>a.1) (B9r bx bp bn l.length (C8 r.items l) (K6 p1)) (fun a s t t' h hs=>h.more hs) (fun a s t h=>⟨_,h.2.choose_spec.2⟩) r.promos codes hck.few (Nat.le_trans hc hBig) h20 84 [] X6 (fun pr t=>B3P pr t)
     89 [] [.fptr (.optr 4 bx 0 0) 0,.optr 4 bp 0 0] (R5 (K6 p1)) C3z (fun a n h=>by have:=h.2.1;omega) (fun a n h=>⟨by have:=h.1;omega,by have:=h.2.1;omega,h.2.2⟩)
     (fun a n pr s t hm hs hI h=>B0j bx bp bn l.length (C8 r.items l) (K6 p1) a pr hI.2.2.1 hI.2.2.2 (by have:=hI.1;omega) (by have:=hI.2.1;omega) s t h)
     (fun a n pr hm hs hI=>B1p (hck.promo pr hm) hs hI) (p1,fee) ⟨by show p1.deals.length+60≤200;omega,by show p1.groups.length+60≤200;omega,hfee⟩ (upd s6 bn ⟨2,1,l.length,fn⟩) _ hR2) (fun v t2 hv=>?_)
    obtain ⟨rfl,o2,ho2,hR3⟩:=hv
    have hp2:V7 (fun a:PSt×Int=>a.1) (R5 (K6 p1)) X6 r.promos (p1,fee) (L5 r.promos o2)=p2B r l p1 (L5 r.promos o2):=by
     unfold p2B;rw [←hfe,hul1]
    rw [hp2] at hR3
    have hQ2:=hQ o2
    generalize p2B r l p1 (L5 r.promos o2)=a2 at *
    obtain ⟨hbp7,y,⟨f7,rfl,hf7⟩,hP7⟩:=hR3
    have hBP7:=A3I bx (C8 r.items l) a2.1
    have h7p:t2 bp=some ⟨44,4,1,f7⟩:=hBP7.sup hP7 bp _ (A0 ..)
    have h7n:t2 bn=some ⟨2,1,l.length,fn⟩:=hBP7.sup hP7 bn _ (by rw [A8 hnb,A0])
    have h76:F2 s6 t2:=fun c x hc=>hBP7.sup hP7 c x (by
     have e1:c≠bp:=fun e=>by subst e;rw [hbp6] at hc;cases hc
     have e2:c≠bn:=fun e=>by subst e;rw [hbn6] at hc;cases hc
     rw [A8 e1,A8 e2];exact hc)
    have h6b:=h76 b6 _ h6
    have hb6p:b6≠bp:=fun e=>by subst e;rw [h6] at hbp6;cases hbp6
    have hb6n:b6≠bn:=fun e=>by subst e;rw [h6] at hbn6;cases hbn6
    have hstn:st bn=none:=hst6.none hbn6
    have hstp:st bp=none:=hst6.none hbp6
    obtain ⟨dv,gv,fx,hx2,hfx2,hdl⟩:=hP7.deals'
    have hS2:F2 st t2:=hst6.trans h76
    conv=>whnf
    refine E9 hx2 rfl (by omega) hfx2 ?_
    rcases hdl with ⟨hd0,rfl⟩ | ⟨bd,gd,rfl,hbd,hbt,hgd⟩
    ·conv=>whnf
     refine K4 h7p rfl (by omega) hf7 (by rfl) ?_;conv=>whnf
     refine E9 (A0 ..) rfl (by omega) (A2 ..) ?_;conv=>whnf
     refine K4 (by rw [A8 hb6p];exact h6b) rfl (by omega) rfl (by rfl) ?_;conv=>whnf
     refine E9 (A0 ..) rfl (by omega) (A2 ..) ?_;conv=>whnf
     refine .inr ⟨hk0,o1,o2,bn,fn,.emp,ho1,ho2,?_,hstn,?_,?_,((hS2.over hstp).over hb6),.inl ⟨?_,rfl⟩⟩
     ·rw [hQ2];rfl
     ·rw [A8 hb6n.symm,A8 hnb];exact h7n
     ·intro k hk
      rw [hQ2,hfn k hk]
      show eI _=eI (gI (S9 l.length p1.us) k)
      unfold S9
      rw [J4 _ hk]
     ·rw [hQ2];exact hd0
    ·have hbdp:bd≠bp:=fun e=>by subst e;rw [A0] at hbd;cases hbd
     rw [A8 hbdp] at hbd
     have hbdn:bd≠bn:=fun e=>by subst e;rw [A0] at hbd;cases hbd
     rw [A8 hbdn] at hbd
     have hbd6:bd≠b6:=fun e=>by subst e;rw [h6] at hbd;cases hbd
     conv=>whnf
     refine K4 h7p rfl (by omega) hf7 (by rfl) ?_;conv=>whnf
     refine E9 (A0 ..) rfl (by omega) (A2 ..) ?_;conv=>whnf
     refine K4 (by rw [A8 hb6p];exact h6b) rfl (by omega) rfl (by rfl) ?_;conv=>whnf
     refine E9 (A0 ..) rfl (by omega) (A2 ..) ?_;conv=>whnf
     refine .inr ⟨hk0,o1,o2,bn,fn,.own 2 bd 0 a2.1.deals.length,ho1,ho2,?_,hstn,?_,?_,((hS2.over hstp).over hb6),.inr ⟨bd,gd,?_,hst6.none hbd,hbdn,?_,?_⟩⟩
     ·rw [hQ2];rfl
     ·rw [A8 hb6n.symm,A8 hnb];exact h7n
     ·intro k hk
      rw [hQ2,hfn k hk]
      show eI _=eI (gI (S9 l.length p1.us) k)
      unfold S9
      rw [J4 _ hk]
     ·rw [hQ2]
     ·rw [A8 hbd6,A8 hbdp,hQ2];exact hbt
     ·rw [hQ2];exact hgd
   ·have hk':k<p1.us.length:=by have:=of_decide_eq_true hd;omega
    have hlk:=hline k hk'
    have hn0:0≤(gU p1.us k).net:=hu1.at0 k
    have hn1:(gU p1.us k).net≤10000000000000:=hu1.le (B4 hk')
    have e1:=N4 (l:=E0 p1.us) (i:=k) (by rw [List.length_map];exact hk')
    have e4:gI (E0 p1.us) k=(gU p1.us k).net:=D8 B5.net p1.us hk'
    have e2:=M0 hu1.nets0 (k+1)
    have e3:=C7 (l:=(E0 p1.us).take k) (fun x hx=>hu1.nets0 x (List.take_subset _ _ hx))
    have hlb:=A0d hu1 k (gU p1.us k).line.toNat
    have hlb2:=A0d hu1 (k+1) (gU p1.us k).line.toNat
    have hln1:=U6 hk' (gU p1.us k).line.toNat
    rw [if_pos rfl] at hln1
    have hfl:fn (0+(gU p1.us k).line.toNat)=eI (F6 (p1.us.take k) (gU p1.us k).line.toNat):=by rw [Nat.zero_add];exact hfn _ hlk.2
    have w1:IntKind.i64.wrap (F6 (p1.us.take k) (gU p1.us k).line.toNat+(gU p1.us k).net)=F6 (p1.us.take (k+1)) (gU p1.us k).line.toNat:=by rw [hln1];exact A9 (by omega) (by omega)
    have w2:IntKind.i64.wrap (A6 ((E0 p1.us).take k)+(gU p1.us k).net)=A6 ((E0 p1.us).take (k+1)):=by rw [e1,e4];exact A9 (by omega) (by omega)
    conv=>whnf
    refine ⟨rfl,⟨by omega,by omega⟩,?_⟩;conv=>whnf
    refine ⟨[10],[],[0,1,2,3,4,5,6,7,8,9,10],by kernel_rfl,?_⟩;conv=>whnf
    refine E9 htp rfl (by omega) hfp ?_;conv=>whnf
    refine ⟨rfl,⟨by show 0≤(gU p1.us k).line;exact hlk.1,by show (gU p1.us k).line<(l.length:Int);have:=hlk.2;have:=hlk.1;omega⟩,?_⟩;conv=>whnf
    refine E9 htn rfl (by show 0+(gU p1.us k).line.toNat<_;have:=hlk.2;omega) hfl ?_;conv=>whnf
    refine ⟨rfl,⟨by show 0≤(gU p1.us k).line;exact hlk.1,by show (gU p1.us k).line<(l.length:Int);have:=hlk.2;have:=hlk.1;omega⟩,?_⟩;conv=>whnf
    refine K4 htn rfl (by show 0+(gU p1.us k).line.toNat<_;have:=hlk.2;omega) hfl (by rfl) ?_
    have hP5:=hwn (Y':=⟨2,1,l.length,G5 fn (0+(gU p1.us k).line.toNat) (eI (F6 (p1.us.take (k+1)) (gU p1.us k).line.toNat))⟩) hP
    rw [←w1] at hP5
    obtain ⟨_,htp2⟩:=hload hP5
    conv=>whnf
    refine E9 htp2 rfl (by omega) hfp ?_;conv=>whnf
    refine K4 htp2 rfl (by omega) hfp (by rfl) ?_;conv=>whnf
    refine ⟨rfl,?_⟩;conv=>whnf
    refine ⟨p1.us.length - (k+1),by omega,k+1,_,_,by omega,rfl,by rw [C0 (by omega)],hwp hP5,?_,fun j hj=>?_⟩
    ·rw [A2,←w2];rfl
    ·show G5 fn (0+(gU p1.us k).line.toNat) _ j=_
     rw [Nat.zero_add]
     rw [U6 hk' j]
     by_cases hj2:j=(gU p1.us k).line.toNat
     ·subst hj2
      rw [if_pos rfl,A2,w1,hln1]
     ·rw [G2 hj2,if_neg (fun e=>hj2 e.symm)];exact hfn j hj
 ·have hk0:D6 r codes l≠0:=by simpa using h1
  conv=>whnf
  refine K4 (A0 ..) rfl (by omega) rfl (by rfl) ?_;conv=>whnf
  refine E9 (A0 ..) rfl (by omega) (A2 ..) ?_;conv=>whnf
  exact .inl ⟨hk0,rfl,(h6s _).over hb6⟩
theorem C4o (s:O4) (x:Ab.Item) (h1:Sm s.skus.length) (h2:Sm s.cats.length) (st:St):S P 118 [J3 s,E3 x] st fun v st'=>v=.bool (A0B s x)∧st'=st:=by
 have e:A0B s x=(((s.skus.length:Int)==0&&(s.cats.length:Int)==0)||(s.skus.any fun y=>y.toList==x.sku.toList)||(s.cats.any fun y=>y.toList==x.cat.toList)):=by
  unfold A0B inB
  rw [A1V,A1V]
  congr 1
  ·congr 1
   ·rw [←Bool.coe_iff_coe];simp only [Bool.and_eq_true,beq_iff_eq];omega
   ·congr 1;funext y;exact Bool.beq_comm
  ·congr 1;funext y;exact Bool.beq_comm
 rw [e]
 have n1:=B5W s.skus x.sku h1 st
 have n2:=B5W s.cats x.cat h2 st
 generalize (s.skus.any fun y=>y.toList==x.sku.toList)=b1 at *
 generalize (s.cats.any fun y=>y.toList==x.cat.toList)=b2 at *
 refine A5 [2,3] B7 mixed Tryz.func118 (by rfl) rfl rfl rfl ?_
 clear e
 repeat' ((conv=>whnf);first | refine A4 n1 ?_ | refine A4 n2 ?_ | (refine C3 (fun h=>?_) (fun h=>?_)<;>rw [h]))
 all_goals (conv=>whnf)
 all_goals (refine ⟨?_,rfl⟩;show AV.bool _=AV.bool _;simp only [*,Bool.true_and,Bool.false_and,Bool.or_true,Bool.or_false,Bool.true_or,Bool.false_or])
theorem B6t {l:List F0} (h:∀ x∈l,lineC x=true) {i:Nat} (hi:i≤l.length):I9 (l.take i)≤I9 l∧I0 (l.take i)≤I0 l:=by
 have:∀ j,i+j≤l.length→I9 (l.take i)≤I9 (l.take (i+j))∧I0 (l.take i)≤I0 (l.take (i+j)):=by
  intro j
  induction j with
  | zero=>intro _;exact ⟨Int.le_refl _,Int.le_refl _⟩
  | succ j ih =>
   intro hj
   obtain ⟨h1,h2⟩:=ih (by omega)
   have hm:=B4 (l:=l) (i:=i+j) (by omega)
   have e1:I9 (l.take (i+j+1))=I9 (l.take (i+j))+(l.getD (i+j) default).qty:=P1 (by omega) _ _
   have e2:I0 (l.take (i+j+1))=I0 (l.take (i+j))+(l.getD (i+j) default).qty * (l.getD (i+j) default).price:=P1 (by omega) _ _
   have h3:=A9z (h _ hm)
   have h4:=(Y8 _).1 (h _ hm)
   rw [show i+(j+1)=i+j+1 by omega,e1,e2];omega
 have h2:=this (l.length - i) (by omega)
 rw [show i+(l.length - i)=l.length by omega,List.take_length] at h2;exact h2
theorem B5X (l:List F0) (st:St):S P 165 [A7 3 E4 l] st fun v st'=>v=eI (H0 (fun _=>true) l)∧st'=st:=by
 refine A5 [] B7 mixed Tryz.func165 (by rfl) rfl rfl rfl ?_;conv=>whnf
 refine C3 (fun h=>?_) (fun h=>?_)<;>rw [h]<;>simp only [decide_eq_true_eq,decide_eq_false_iff_not] at h
 ·conv=>whnf
  exact ⟨by rw [show H0 (fun _=>true) l=6 from if_pos (by omega)];rfl,rfl⟩
 have hs:l.length≤1000:=by omega
 have hc:H0 (fun _=>true) l=match l.find? (I2 (fun _=>true)) with
  | some x=>if (fun _=>true) x.sku=true then 2 else 7
  | none=>if (decide (I9 l>100000)||decide (I0 l>10000000000000))=true then 5 else 0:=if_neg (by omega)
 conv=>whnf
 refine lp l.length [0,3] (fun i vs s=>(∀ k,k<i→lineC (l.getD k default)=true)∧vs=[A7 3 E4 l,eI i]∧s=st) ?_ ?_
 ·conv=>whnf
  exact ⟨fun k hk=>absurd hk (by omega),rfl,rfl⟩
 ·rintro i vs st' hi ⟨hok,rfl,rfl⟩
  conv=>whnf
  cases h:decide ((i:Int)<(l.length:Int))
  ·obtain rfl:=D1 h hi
   have hall:∀ x∈l,lineC x=true:=fun x hx=>by obtain ⟨k,hk,rfl⟩:=F4 hx;exact hok k hk
   rw [A7H fun k hk=>by unfold I2;rw [hok k hk];rfl] at hc
   simp only at hc
   conv=>whnf
   refine lp l.length [0,4,5,6] (fun i vs s=>(0≤I9 (l.take i)∧I9 (l.take i)≤100000)∧(0≤I0 (l.take i)∧I0 (l.take i)≤10000000000000)∧vs=[A7 3 E4 l,eI (I9 (l.take i)),eI (I0 (l.take i)),eI i]∧s=st') ?_ ?_
   ·conv=>whnf
    exact ⟨⟨Int.le_refl _,by rw [List.take_zero];decide⟩,⟨Int.le_refl _,by rw [List.take_zero];decide⟩,rfl,rfl⟩
   ·rintro i vs st' hi ⟨hu,hg,rfl,rfl⟩
    conv=>whnf
    cases h:decide ((i:Int)<(l.length:Int))
    ·obtain rfl:=D1 h hi
     rw [List.take_length] at hu hg
     rw [if_neg (by rw [decide_eq_false (show ¬ I9 l>100000 by omega),decide_eq_false (show ¬ I0 l>10000000000000 by omega)];simp)] at hc;conv=>whnf
     exact ⟨by rw [hc];rfl,rfl⟩
    ·have hi':=F7 h
     have hx:lineC (l.getD (i:Int).toNat default)=true:=hall _ (B4 hi')
     obtain ⟨⟨q0,q1⟩,_⟩:=(Y8 _).1 hx
     obtain ⟨m0,m1⟩:=A9z hx
     have eu:I9 (l.take (i+1))=I9 (l.take i)+(l.getD (i:Int).toNat default).qty:=P1 hi' _ _
     have eg:I0 (l.take (i+1))=I0 (l.take i)+(l.getD (i:Int).toNat default).qty * (l.getD (i:Int).toNat default).price:=P1 hi' _ _
     have w1:IntKind.i64.wrap (I9 (l.take i)+(l.getD (i:Int).toNat default).qty)=I9 (l.take (i+1)):=by rw [eu];exact A9 (by omega) (by omega)
     have w2:IntKind.i64.wrap ((l.getD (i:Int).toNat default).qty * (l.getD (i:Int).toNat default).price)=(l.getD (i:Int).toNat default).qty * (l.getD (i:Int).toNat default).price:=A9 (by omega) (by omega)
     have w3:IntKind.i64.wrap (I0 (l.take i)+(l.getD (i:Int).toNat default).qty * (l.getD (i:Int).toNat default).price)=I0 (l.take (i+1)):=by rw [eg];exact A9 (by omega) (by omega)
     have hmono:=B6t hall (show i+1≤l.length from hi')
     have bad:I9 (l.take (i+1))>100000∨I0 (l.take (i+1))>10000000000000→H0 (fun _=>true) l=5:=fun hb=>by
      rw [hc]
      refine if_pos ?_
      rw [Bool.or_eq_true,decide_eq_true_eq,decide_eq_true_eq];omega
     conv=>whnf
     refine ⟨rfl,⟨by omega,by omega⟩,?_⟩;conv=>whnf
     rw [w1]
     refine ⟨[],[],List.range 14,by kernel_rfl,?_⟩;conv=>whnf
     refine ⟨rfl,⟨by omega,by omega⟩,?_⟩;conv=>whnf
     refine ⟨rfl,⟨by omega,by omega⟩,?_⟩;conv=>whnf
     rw [w2,w3]
     refine C3 (fun h1=>?_) (fun h1=>?_)<;>rw [h1]
     ·conv=>whnf
      exact ⟨by rw [bad (.inl (of_decide_eq_true h1))];rfl,rfl⟩
     ·conv=>whnf
      refine C3 (fun h2=>?_) (fun h2=>?_)<;>rw [h2]
      ·conv=>whnf
       exact ⟨by rw [bad (.inr (of_decide_eq_true h2))];rfl,rfl⟩
      ·conv=>whnf
       refine ⟨rfl,?_⟩;conv=>whnf
       have:=of_decide_eq_false h1
       have:=of_decide_eq_false h2
       exact nx hi' ⟨⟨by rw [eu];omega,by omega⟩,⟨by rw [eg];omega,by omega⟩,by rw [C0 (by omega)],rfl⟩
  ·have hi':=F7 h
   have n3:=A1N (l.getD (i:Int).toNat default).price 1000000000 st'
   have yes:lineC (l.getD (i:Int).toNat default)=true→∀ k,k<i+1→lineC (l.getD k default)=true:=fun h=>L7 hok h
   have no:lineC (l.getD (i:Int).toNat default)=false→H0 (fun _=>true) l=2:=fun h=>by
    rw [hc,A3l hi' (fun k hk=>by unfold I2;rw [hok k hk];rfl) (by unfold I2;rw [show lineC (l.getD i default)=false from h];rfl)]
    exact if_pos rfl
   have e:lineC (l.getD (i:Int).toNat default)=(!decide ((l.getD (i:Int).toNat default).qty<0)&&!decide ((l.getD (i:Int).toNat default).qty>100000)&&R7 0 1000000000 (l.getD (i:Int).toNat default).price):=by
    unfold lineC;congr 1;unfold R7;congr 1<;>(rw [←decide_not];exact decide_eq_decide.2 (by omega))
   rw [e] at yes no
   generalize R7 0 1000000000 (l.getD (i:Int).toNat default).price=b3 at n3 yes no
   clear e hc
   repeat' ((conv=>whnf);first | refine ⟨rfl,⟨by omega,by omega⟩,?_⟩ | refine A4 n3 ?_ | cases b3 | (refine C3 (fun h=>?_) (fun h=>?_)<;>rw [h]))
   all_goals (conv=>whnf)
   all_goals first
    | (refine ⟨?_,rfl⟩;rw [no (by simp only [*,Bool.not_true,Bool.false_and,Bool.and_false])];rfl)
    | (refine ⟨rfl,?_⟩;conv=>whnf
       exact nx hi' ⟨yes (by simp only [*,Bool.not_false,Bool.and_true]),by rw [C0 (by omega)],rfl⟩)
theorem B5g {kn:D7→Bool} {l:List F0} (h:∀ x∈l,I2 kn x=false):H0 kn l=H0 (fun _=>true) l:=by
 unfold H0
 rw [List.find?_eq_none.2 fun x hx=>by rw [h x hx];simp,List.find?_eq_none.2 fun x hx=>by
  have:=h x hx
  simp only [I2,Bool.not_eq_false',Bool.and_eq_true] at this
  unfold I2;rw [this.2];simp]
theorem C0r (items:List Ab.Item) (l:List F0) (hi:Sm items.length) (hl:Sm l.length) (st:St):S P 93 [A7 4 E3 items,A7 3 E4 l] st fun v st'=>v=eI (H0 (known items) l)∧st'=st:=by
 refine A5 [] B7 mixed Tryz.func93 (by rfl) rfl rfl rfl ?_;conv=>whnf
 refine lp l.length [0,1,5] (fun i vs s=>(∀ k,k<i→I2 (known items) (l.getD k default)=false)∧vs=[A7 4 E3 items,A7 3 E4 l,eI i]∧s=st) ?_ ?_
 ·conv=>whnf
  exact ⟨fun k hk=>absurd hk (by omega),rfl,rfl⟩
 ·rintro i vs st' hi2 ⟨hok,rfl,rfl⟩
  conv=>whnf
  cases h:decide ((i:Int)<(l.length:Int))
  ·obtain rfl:=D1 h hi2
   conv=>whnf
   refine A4 (B5X l _) ?_;conv=>whnf
   rw [B5g (kn:=known items) fun x hx=>by obtain ⟨k,hk,rfl⟩:=F4 hx;exact hok k hk]
   exact ⟨rfl,rfl⟩
  ·have hi':=F7 h
   conv=>whnf
   refine C3 (fun h1=>?_) (fun h1=>?_)<;>rw [h1]
   ·have hs:l.length≤1000:=by have:=of_decide_eq_true h1;omega
    have hc:H0 (known items) l=match l.find? (I2 (known items)) with
     | some x=>if known items x.sku=true then 2 else 7
     | none=>if (decide (I9 l>100000)||decide (I0 l>10000000000000))=true then 5 else 0:=if_neg (by omega)
    have n1:=B7d items (l.getD (i:Int).toNat default).sku hi st'
    have n3:=A1N (l.getD (i:Int).toNat default).price 1000000000 st'
    have yes:I2 (known items) (l.getD (i:Int).toNat default)=false→∀ k,k<i+1→I2 (known items) (l.getD k default)=false:=fun h=>L7 hok h
    have no:I2 (known items) (l.getD (i:Int).toNat default)=true→H0 (known items) l=if known items (l.getD i default).sku=true then 2 else 7:=fun h=>by
     rw [hc,A3l hi' hok h]
    have e:I2 (known items) (l.getD (i:Int).toNat default)=!(!decide (V8 items (l.getD (i:Int).toNat default).sku<0)&&(!decide ((l.getD (i:Int).toNat default).qty<0)&&!decide ((l.getD (i:Int).toNat default).qty>100000)&&R7 0 1000000000 (l.getD (i:Int).toNat default).price)):=by
     unfold I2 lineC known;congr 1;congr 1
     ·rw [←decide_not];exact decide_eq_decide.2 (by omega)
     ·congr 1;unfold R7;congr 1<;>(rw [←decide_not];exact decide_eq_decide.2 (by omega))
    have e2:known items (l.getD i default).sku=!decide (V8 items (l.getD (i:Int).toNat default).sku<0):=by
     unfold known;rw [←decide_not];exact decide_eq_decide.2 (by rw [Int.toNat_natCast];omega)
    rw [e] at yes no
    rw [e2] at no
    generalize V8 items (l.getD (i:Int).toNat default).sku=F at *
    generalize R7 0 1000000000 (l.getD (i:Int).toNat default).price=b3 at n3 yes no
    clear e e2 hc
    repeat' ((conv=>whnf);first | refine ⟨rfl,⟨by omega,by omega⟩,?_⟩ | refine A4 n1 ?_ | refine A4 n3 ?_ | cases b3 | (refine C3 (fun h=>?_) (fun h=>?_)<;>rw [h]))
    all_goals (conv=>whnf)
    all_goals first
     | (refine ⟨?_,rfl⟩;rw [no (by simp only [*,Bool.not_true,Bool.false_and,Bool.and_false,Bool.not_false]),if_neg (by simp only [*];simp)];rfl)
     | (refine ⟨?_,rfl⟩;rw [no (by simp only [*,Bool.not_true,Bool.false_and,Bool.and_false,Bool.not_false]),if_pos (by simp only [*,Bool.not_false])];rfl)
     | (refine ⟨rfl,?_⟩;conv=>whnf
        exact nx hi' ⟨yes (by simp only [*,Bool.not_false,Bool.and_true,Bool.not_true]),by rw [C0 (by omega)],rfl⟩)
   ·have:=of_decide_eq_false h1
    conv=>whnf
    refine A4 (B5X l _) ?_;conv=>whnf
    exact ⟨by rw [show H0 (known items) l=6 from if_pos (by omega),show H0 (fun _=>true) l=6 from if_pos (by omega)];rfl,rfl⟩
theorem C0w (l:List F0) (hl:l.length≤1000) (hok:∀ x∈l,lineC x=true) (hm:H0 (fun _=>true) l=0) (hN:(R6 l).length≤100000) (st:St):S P 94 [A7 3 E4 l] st fun v st'=>v=C6 (R6 l)∧st'=st:=by
 refine W7 (ty:=158) ?_
 refine A5 [] B7 mixed Tryz.func94 (by rfl) rfl rfl rfl ?_;conv=>whnf
 refine A4 (B5X l _) ?_
 rw [hm];conv=>whnf
 refine lp l.length [0,3,4] (fun i vs s=>∃ sv,vs=[A7 3 E4 l,sv,eI i]∧G0 158 3 V6 (F9 l i) st sv s) ?_ ?_
 ·conv=>whnf
  exact ⟨.emp,rfl,G0.start _ _ _ _⟩
 ·rintro i vs st' hi ⟨sv,rfl,hc⟩
  conv=>whnf
  cases h:decide ((i:Int)<(l.length:Int))
  ·obtain rfl:=D1 h hi
   conv=>whnf
   exact hc
  ·have hi':=F7 h
   have hx:lineC (l.getD (i:Int).toNat default)=true:=hok _ (B4 hi')
   obtain ⟨⟨q0,q1⟩,_⟩:=(Y8 _).1 hx
   have hq:(l.getD (i:Int).toNat default).qty=((l.getD i default).qty.toNat:Int):=by rw [Int.toNat_natCast] at *;omega
   have hlt:=fun {j} (hj:j<(l.getD i default).qty.toNat)=>B0t hi' hj
   generalize hn:(l.getD i default).qty.toNat=n at *
   conv=>whnf
   refine lp n [0,3,4,5] (fun j vs s=>∃ sv,vs=[A7 3 E4 l,sv,eI i,eI j]∧G0 158 3 V6 (F9 l i++List.replicate j (lnU l i)) st sv s) ?_ ?_
   ·conv=>whnf
    exact ⟨sv,rfl,by rw [List.replicate_zero,List.append_nil];exact hc⟩
   ·clear hc
    rintro j vs s hj ⟨sv,rfl,hc⟩
    conv=>whnf
    refine ⟨rfl,⟨by omega,by omega⟩,?_⟩;conv=>whnf
    rw [hq]
    cases h:decide ((j:Int)<(n:Int))
    ·obtain rfl:=D1 h hj
     conv=>whnf
     refine ⟨rfl,?_⟩;conv=>whnf
     refine nx hi' ⟨sv,by rw [C0 (by omega)],?_⟩
     unfold F9;rw [hn];exact hc
    ·have hj':=F7 h
     have h5:=hlt hj'
     have h6:(F9 l l.length).length≤100000:=hN
     conv=>whnf
     refine ⟨rfl,⟨by omega,by omega⟩,?_⟩;conv=>whnf
     refine G0.app (q:=B8q) (y:=lnU l i) rfl rfl rfl rfl rfl rfl (by show (_+1) * 24≤140737488355328;omega) hc (fun sv' s' hc'=>?_);conv=>whnf
     refine ⟨rfl,?_⟩;conv=>whnf
     exact nx hj' ⟨sv',by rw [C0 (by omega)],by rw [List.replicate_succ',←List.append_assoc];exact hc'⟩
theorem C0u (items:List Ab.Item) (l:List F0) (hi:Sm items.length) (hl:l.length≤1000) (hk:∀ x∈l,known items x.sku=true) (st:St):S P 95 [A7 4 E3 items,A7 3 E4 l] st fun v st'=>v=A7 4 E3 (C8 items l)∧st'=st:=by
 refine W7 (ty:=76) ?_
 refine A5 [] B7 mixed Tryz.func95 (by rfl) rfl rfl rfl ?_;conv=>whnf
 refine lp l.length [0,1,5,6] (fun i vs s=>∃ sv,vs=[A7 4 E3 items,A7 3 E4 l,sv,eI i]∧G0 76 4 E3 (C8 items (l.take i)) st sv s) ?_ ?_
 ·conv=>whnf
  exact ⟨.emp,rfl,G0.start _ _ _ _⟩
 ·rintro i vs st' hi2 ⟨sv,rfl,hc⟩
  conv=>whnf
  cases h:decide ((i:Int)<(l.length:Int))
  ·obtain rfl:=D1 h hi2
   rw [List.take_length] at hc;conv=>whnf
   exact hc
  ·have hi':=F7 h
   have hmem:l.getD (i:Int).toNat default∈l:=B4 hi'
   have hkn:=hk _ hmem
   simp only [known,decide_eq_true_eq] at hkn
   have hlt:=(A9u (fun x:Ab.Item=>x.sku.toList==(l.getD (i:Int).toNat default).sku.toList) items).2
   have hlen:(C8 items (l.take i)).length=i:=by unfold C8;rw [List.length_map,List.length_take];omega
   conv=>whnf
   refine ⟨rfl,⟨by omega,by omega⟩,?_⟩;conv=>whnf
   refine A4 (B7d items (l.getD (i:Int).toNat default).sku (by omega) _) ?_;conv=>whnf
   refine C3 (fun h1=>?_) (fun h1=>?_)
   ·exact absurd (of_decide_eq_true h1) (by omega)
   ·rw [h1];conv=>whnf
    refine ⟨rfl,⟨by omega,by omega⟩,?_⟩;conv=>whnf
    refine G0.app (q:=r76) (y:=items.getD (V8 items (l.getD (i:Int).toNat default).sku).toNat default) rfl rfl rfl rfl rfl rfl (by show (_+1) * 48≤140737488355328;omega) hc (fun sv' s' hc'=>?_);conv=>whnf
    refine ⟨rfl,?_⟩;conv=>whnf
    refine nx hi' ⟨sv',by rw [C0 (by omega)],?_⟩
    unfold C8 at hc' ⊢
    rw [A2B hi'];exact hc'
end Go.Proofs.YthdimklenlikgaaGreat
namespace Go.Proofs.YthdimklenlikgaaGreat
open Go Go.Ab
theorem A7W (l:List B1) (o:List Int):(L5 l o).Perm o:=by
 have h:=(A0y l o).map fun e:QE=>gI o e.2.toNat
 rw [List.map_map] at h
 have e:(List.range o.length).map ((fun e:QE=>gI o e.2.toNat) ∘ A9X l o)=o:=by
  refine List.ext_getElem (by simp) fun k h1 h2=>?_
  rw [List.getElem_map,List.getElem_range]
  show o.getD k default=_
  rw [List.getD_eq_getElem?_getD,List.getElem?_eq_getElem h2];rfl
 rw [e] at h;exact h
end Go.Proofs.YthdimklenlikgaaGreat
namespace Go.Proofs.YthdimklenlikgaaGreat
open Go Go.Ab
attribute [local irreducible] upd del
def C1 (v n:Int):Int:=v % 18446744073709551616 % n
theorem E1 (v:Int) {n:Int} (h:0<n):0≤C1 v n∧C1 v n<n:=⟨Int.emod_nonneg _ (by omega),Int.emod_lt_of_pos _ h⟩
theorem B7u (x:Int):IntKind.u64.wrap x=x % 18446744073709551616:=rfl
theorem C0a (v:Int) {n:Int} (h0:0<n) (h1:n≤9223372036854775807):IntKind.i64.wrap (Int.tmod (IntKind.u64.wrap v) (IntKind.u64.wrap n))=C1 v n:=by
 have h2:=E1 v h0
 have e1:IntKind.u64.wrap n=n:=by rw [B7u];omega
 have e2:Int.tmod (IntKind.u64.wrap v) n=C1 v n:=by rw [Int.tmod_eq_emod_of_nonneg (by rw [B7u];omega)];rfl
 rw [e1,e2,A9 (by omega) (by omega)]
theorem A0u (v n:Int) (h0:0<n) (h1:n≤9223372036854775807) (st:St):S P 26 [eI v,eI n] st fun r st'=>r=eI (C1 v n)∧st'=st:=by
 refine A5 [] B7 mixed Tryz.func26 (by rfl) rfl rfl rfl ?_;conv=>whnf
 rw [decide_eq_false (show ¬ IntKind.u64.wrap n=0 by rw [B7u];omega)];conv=>whnf
 refine ⟨?_,rfl⟩
 rw [←C0a v h0 h1];rfl
theorem L8 (v n:Int) (h0:0<n) (h1:n≤9223372036854775807) (st:St):S P 75 [eI v,eI n] st fun r st'=>r=eI (C1 v n)∧st'=st:=by
 refine A5 [] B7 mixed Tryz.func75 (by rfl) rfl rfl rfl ?_;conv=>whnf
 rw [decide_eq_false (show ¬ IntKind.u64.wrap n=0 by rw [B7u];omega)];conv=>whnf
 refine ⟨?_,rfl⟩
 rw [←C0a v h0 h1];rfl
def V0 (c:Int):D7:=B0U [IntKind.u8.wrap c]
def A0C (n:Int):D7:=V0 (97+C1 n 8)
def A4q (n:Int):D7:=V0 (120+C1 n 3)
def idN (n:Int):D7:=(⟨#[112]⟩:D7)++V0 (48+C1 n 10)
def A4e (n:Int):D7:=(⟨#[99]⟩:D7)++V0 (48+C1 n 3)
theorem B1J (c x:Int):IntKind.u8.wrap (c+IntKind.u8.wrap x)=IntKind.u8.wrap (c+x):=by
 show (c+x % 256) % 256=(c+x) % 256
 omega
theorem C0L (n:Int) (st:St):S P 79 [eI n] st fun r st'=>r=eS (A0C n)∧st'=st:=by
 refine A5 [] B7 mixed Tryz.func79 (by rfl) rfl rfl rfl ?_;conv=>whnf
 refine A4 (A0u n 8 (by decide) (by decide) _) ?_;conv=>whnf
 refine ⟨?_,rfl⟩
 show AV.str (B0U [IntKind.u8.wrap (97+IntKind.u8.wrap (C1 n 8))])=_
 rw [B1J];rfl
theorem A3K (n:Int) (st:St):S P 119 [eI n] st fun r st'=>r=eS (A4q n)∧st'=st:=by
 refine A5 [] B7 mixed Tryz.func119 (by rfl) rfl rfl rfl ?_;conv=>whnf
 refine A4 (A0u n 3 (by decide) (by decide) _) ?_;conv=>whnf
 refine ⟨?_,rfl⟩
 show AV.str (B0U [IntKind.u8.wrap (120+IntKind.u8.wrap (C1 n 3))])=_
 rw [B1J];rfl
theorem C8n (n:Int) (st:St):S P 235 [eI n] st fun r st'=>r=eS (idN n)∧st'=st:=by
 refine A5 [] B7 mixed Tryz.func235 (by rfl) rfl rfl rfl ?_;conv=>whnf
 refine A4 (A0u n 10 (by decide) (by decide) _) ?_;conv=>whnf
 refine ⟨?_,rfl⟩
 show AV.str ((⟨#[112]⟩:D7)++B0U [IntKind.u8.wrap (48+IntKind.u8.wrap (C1 n 10))])=_
 rw [B1J];rfl
theorem B9z (n:Int) (st:St):S P 78 [eI n] st fun r st'=>r=eS (A4e n)∧st'=st:=by
 refine A5 [] B7 mixed Tryz.func78 (by rfl) rfl rfl rfl ?_;conv=>whnf
 refine A4 (A0u n 3 (by decide) (by decide) _) ?_;conv=>whnf
 refine ⟨?_,rfl⟩
 show AV.str ((⟨#[99]⟩:D7)++B0U [IntKind.u8.wrap (48+IntKind.u8.wrap (C1 n 3))])=_
 rw [B1J];rfl
def B2v (s:D7):Nat→Int
 | 0=>s.size
 | i+1=>IntKind.i64.wrap (IntKind.i64.wrap (7 * B2v s i)+chr s i)
def A2M (s:D7):Int:=B2v s (min s.size 8)
theorem B9x (s:D7) (i:Nat):0≤chr s i∧chr s i<256:=by
 unfold chr;split
 ·rename_i h;have:=(s[i]'h).toNat_lt;omega
 ·omega
theorem A9L (s:D7) (st:St):S P 80 [eS s] st fun r st'=>r=eI (A2M s)∧st'=st:=by
 refine A5 [] B7 mixed Tryz.func80 (by rfl) rfl rfl rfl ?_;conv=>whnf
 refine lp (min s.size 8) [0,3,4] (fun i vs t=>vs=[eS s,eI (B2v s i),eI i]∧t=st) ?_ ?_
 ·conv=>whnf
  exact ⟨rfl,rfl⟩
 ·rintro i vs t hi ⟨rfl,rfl⟩
  conv=>whnf
  refine C3 (fun h1=>?_) (fun h1=>?_)<;>rw [h1]<;>simp only [decide_eq_true_eq,decide_eq_false_iff_not] at h1
  ·conv=>whnf
   refine C3 (fun h2=>?_) (fun h2=>?_)<;>rw [h2]<;>simp only [decide_eq_true_eq,decide_eq_false_iff_not] at h2
   ·have hi':i<min s.size 8:=by omega
    conv=>whnf
    refine C2c (i:=i) rfl (by omega) ?_;conv=>whnf
    refine ⟨rfl,?_⟩;conv=>whnf
    refine nx hi' ⟨?_,rfl⟩
    rw [C0 (by omega)]
    have hc:IntKind.i64.wrap (chr s i)=chr s i:=A9 (by have:=B9x s i;omega) (by have:=B9x s i;omega)
    show [eS s,eI (IntKind.i64.wrap (IntKind.i64.wrap (7 * B2v s i)+IntKind.i64.wrap (chr s i))),eI ((i+1:Nat):Int)]=_
    rw [hc];rfl
   ·obtain rfl:i=min s.size 8:=by omega
    conv=>whnf
    exact ⟨rfl,rfl⟩
  ·obtain rfl:i=min s.size 8:=by omega
   conv=>whnf
   exact ⟨rfl,rfl⟩
def C3S (r:E8):Bool:=decide ((r.items.length:Int)<60)&&decide ((r.promos.length:Int)<30)&&decide ((r.tax.zones.length:Int)<30)&&decide ((r.policy.order.length:Int)<30)&&decide ((r.policy.credit.length:Int)<30)
theorem C4Y (r:E8) (st:St):S P 23 [J2 r] st fun v st'=>v=.bool (C3S r)∧st'=st:=by
 refine A5 [1] B7 mixed Tryz.func23 (by rfl) rfl rfl rfl ?_
 unfold C3S
 repeat' ((conv=>whnf);first | (refine C3 (fun h=>?_) (fun h=>?_)<;>rw [h]))
 all_goals (conv=>whnf)
 all_goals exact ⟨by simp only [Bool.true_and,Bool.false_and];rfl,rfl⟩
def A5d (l:List D7) (most:Nat) (kinds:Int) (name:Int→D7) (out:List D7) (k:Nat):List D7 :=
 if (decide (out.length<most)&&(l.take 4).any fun s=>C1 (A2M s) kinds==k)=true then out++[name k] else out
def P6 (l:List D7) (most:Nat) (kinds:Int) (name:Int→D7) (k:Nat):List D7:=(List.range k).foldl (A5d l most kinds name) []
theorem A5e (l:List D7) (most:Nat) (kinds:Int) (name:Int→D7) (k:Nat):P6 l most kinds name (k+1)=A5d l most kinds name (P6 l most kinds name k) k:=by
 unfold P6;rw [List.range_succ,List.foldl_append];rfl
theorem B6g (l:List D7) (most:Nat) (kinds:Int) (name:Int→D7) (k:Nat):(P6 l most kinds name k).length≤k:=by
 induction k with
 | zero=>exact Nat.le_refl _
 | succ k ih =>
  rw [A5e];unfold A5d
  split
  ·rw [List.length_append];show _+1≤_;omega
  ·omega
theorem B6h (l:List D7) (most kinds:Nat) (name:Int→D7) (g:FuncId) (hk:0<kinds) (hk2:kinds≤100) (hg:∀ (n:Int) (st:St),S P g [eI n] st fun v st'=>v=eS (name n)∧st'=st) (st:St) :
  S P 77 [D3 l,eI most,eI kinds,.fn (.func g) [] []] st fun v st'=>v=D3 (P6 l most kinds name kinds)∧st'=st:=by
 refine W7 (ty:=9) ?_
 refine A5 [] B7 mixed Tryz.func77 (by rfl) rfl rfl rfl ?_;conv=>whnf
 refine lp kinds [0,1,2,3,9,10] (fun k vs s=>∃ sv,vs=[D3 l,eI most,eI kinds,.fn (.func g) [] [],sv,eI k]∧G0 9 1 eS (P6 l most kinds name k) st sv s) ?_ ?_
 ·conv=>whnf
  exact ⟨.emp,rfl,G0.start _ _ _ _⟩
 ·rintro k vs s hk1 ⟨sv,rfl,hc⟩
  conv=>whnf
  cases hd:decide ((k:Int)<(kinds:Int))
  ·obtain rfl:=D1 hd hk1
   conv=>whnf
   exact hc
  ·have hk':=F7 hd
   have hlen:=B6g l most kinds name k
   have hS:=A5e l most kinds name k
   unfold A5d at hS;conv=>whnf
   refine lp (min l.length 4) [0,1,2,3,9,10,11] (fun i vs t=>(∀ j,j<i→(C1 (A2M (l.getD j default)) kinds==k)=false)∧vs=[D3 l,eI most,eI kinds,.fn (.func g) [] [],sv,eI k,eI i]∧t=s) ?_ ?_
   ·conv=>whnf
    exact ⟨fun j hj=>absurd hj (by omega),rfl,rfl⟩
   ·rintro i vs t hi ⟨hok,rfl,rfl⟩
    have hstop:i=min l.length 4→((l.take 4).any fun s=>C1 (A2M s) kinds==k)=false:=fun e=>by
     refine List.any_eq_false.2 fun x hx=>?_
     obtain ⟨j,hj,rfl⟩:=F4 hx
     rw [List.length_take] at hj
     rw [show (l.take 4).getD j default=l.getD j default by rw [List.getD_eq_getElem?_getD,List.getD_eq_getElem?_getD,List.getElem?_take_of_lt (by omega)],hok j (by omega)]
     simp
    have hsv:(sv=.emp∧(P6 l most kinds name k).length=0)∨∃ b,sv=.own 1 b 0 (P6 l most kinds name k).length:=by
     rcases hc with ⟨h0,h1,_⟩ | ⟨_,b,_,_,h1,_⟩
     ·exact .inl ⟨h1,h0⟩
     ·exact .inr ⟨b,h1⟩
    have hrun:∀ {t':St} {sv':AV},G0 9 1 eS (P6 l most kinds name (k+1)) st sv' t'→∃ sv,[D3 l,eI most,eI kinds,.fn (.func g) [] [],sv',eI (IntKind.i64.wrap ((k:Int)+1))]=[D3 l,eI most,eI kinds,.fn (.func g) [] [],sv,eI ((k+1:Nat):Int)]∧G0 9 1 eS (P6 l most kinds name (k+1)) st sv t':=fun {t' sv'} h=>⟨sv',by rw [C0 (by omega)],h⟩
    conv=>whnf
    refine C3 (fun h1=>?_) (fun h1=>?_)<;>rw [h1]<;>simp only [decide_eq_true_eq,decide_eq_false_iff_not] at h1
    ·conv=>whnf
     refine C3 (fun h2=>?_) (fun h2=>?_)<;>rw [h2]<;>simp only [decide_eq_true_eq,decide_eq_false_iff_not] at h2
     ·have hi':i<min l.length 4:=by omega
      rcases hsv with ⟨rfl,hl0⟩ | ⟨b,rfl⟩
      all_goals
       conv=>whnf
       refine C3 (fun h3=>?_) (fun h3=>?_)<;>rw [h3]<;>simp only [decide_eq_true_eq,decide_eq_false_iff_not] at h3
       ·conv=>whnf
        refine ⟨rfl,⟨by omega,by omega⟩,?_⟩;conv=>whnf
        refine A4 (A9L _ _) ?_;conv=>whnf
        refine A4 (A0u _ (kinds:Int) (by omega) (by omega) _) ?_;conv=>whnf
        cases h4:(C1 (A2M (l.getD (i:Int).toNat default)) (kinds:Int)==(k:Int))
        ·conv=>whnf
         refine ⟨rfl,?_⟩;conv=>whnf
         exact nx hi' ⟨L7 hok h4,by rw [C0 (by omega)],rfl⟩
        ·have hm:(decide ((P6 l most kinds name k).length<most)&&(l.take 4).any fun s=>C1 (A2M s) kinds==k)=true:=by
          rw [Bool.and_eq_true,decide_eq_true_eq,List.any_eq_true]
          refine ⟨by omega,l.getD (i:Int).toNat default,?_,h4⟩
          rw [show l.getD (i:Int).toNat default=(l.take 4).getD i default by rw [List.getD_eq_getElem?_getD,List.getD_eq_getElem?_getD,List.getElem?_take_of_lt (by omega)];rfl]
          exact B4 (by rw [List.length_take];omega)
         rw [if_pos hm] at hS;conv=>whnf
         refine A4 (hg _ _) ?_;conv=>whnf
         refine G0.app (q:=r9) rfl rfl rfl rfl rfl (by rfl) (by show ((P6 l most kinds name k).length+1) * 16≤140737488355328;omega) hc (fun sv' t' hc'=>?_);conv=>whnf
         refine ⟨rfl,?_⟩;conv=>whnf
         exact nx hk' (hrun (by rw [hS];exact hc'))
       ·rw [if_neg (by rw [decide_eq_false (by omega)];simp)] at hS;conv=>whnf
        refine ⟨rfl,?_⟩;conv=>whnf
        exact nx hk' (hrun (by rw [hS];exact hc))
     ·rw [if_neg (by rw [hstop (by omega)];simp)] at hS;conv=>whnf
      refine ⟨rfl,?_⟩;conv=>whnf
      exact nx hk' (hrun (by rw [hS];exact hc))
    ·rw [if_neg (by rw [hstop (by omega)];simp)] at hS;conv=>whnf
     refine ⟨rfl,?_⟩;conv=>whnf
     exact nx hk' (hrun (by rw [hS];exact hc))
def N9 (s:O4):O4:=⟨P6 s.skus 3 8 A0C 8,P6 s.cats 2 3 A4q 3⟩
theorem B4p (s:O4) (st:St):S P 236 [J3 s] st fun v st'=>v=J3 (N9 s)∧st'=st:=by
 have h1:=fun st=>B6h s.skus 3 8 A0C 79 (by decide) (by decide) C0L st
 have h2:=fun st=>B6h s.cats 2 3 A4q 119 (by decide) (by decide) A3K st
 unfold N9
 generalize P6 s.skus 3 8 A0C 8=a at h1 ⊢
 generalize P6 s.cats 2 3 A4q 3=b at h2 ⊢
 refine A2F ?_
 refine A5 [1] B7 mixed Tryz.func236 (by rfl) rfl rfl rfl ?_;conv=>whnf
 intro b2 hb;conv=>whnf
 refine ⟨[7],[],List.range 8,by kernel_rfl,?_⟩;conv=>whnf
 refine ⟨_,C9 (h1 _),?_⟩;conv=>whnf
 refine ⟨_,C9 (h2 _),?_⟩;conv=>whnf
 refine K4 (A0 ..) rfl (by omega) rfl (by rfl) ?_;conv=>whnf
 refine E9 (A0 ..) rfl (by omega) (A2 ..) ?_;conv=>whnf
 exact ⟨rfl,((F2.refl st).upd hb).over hb⟩
def A0w (l:List D7):List D7:=P6 l 3 3 A4e 3
theorem B4e (l:List D7) (st:St):S P 18 [D3 l] st fun v st'=>v=D3 (A0w l)∧st'=st:=by
 refine A5 [] B7 mixed Tryz.func18 (by rfl) rfl rfl rfl ?_;conv=>whnf
 refine A4 (B6h l 3 3 A4e 78 (by decide) (by decide) B9z _) ?_;conv=>whnf
 exact ⟨rfl,rfl⟩
def A0Q (x:F0):F0:=⟨A0C (A2M x.sku),C1 x.qty 10,C1 x.price 4000⟩
def Q9 (l:List F0):List F0:=(l.take 8).map A0Q
theorem B2D (l:List F0) (st:St):S P 19 [A7 3 E4 l] st fun v st'=>G0 56 3 E4 (Q9 l) st v st':=by
 refine A5 [] B7 mixed Tryz.func19 (by rfl) rfl rfl rfl ?_;conv=>whnf
 refine lp (min l.length 8) [0,3,4] (fun i vs s=>∃ sv,vs=[A7 3 E4 l,sv,eI i]∧G0 56 3 E4 ((l.take i).map A0Q) st sv s) ?_ ?_
 ·conv=>whnf
  exact ⟨.emp,rfl,G0.start _ _ _ _⟩
 ·rintro i vs s hi ⟨sv,rfl,hc⟩
  have hfin:i=min l.length 8→G0 56 3 E4 (Q9 l) st sv s:=fun e=>by
   have:Q9 l=(l.take i).map A0Q:=by
    unfold Q9
    rcases Nat.le_total l.length 8 with h | h
    ·rw [show i=l.length by omega,List.take_length,List.take_of_length_le h]
    ·rw [show i=8 by omega]
   rw [this];exact hc
  conv=>whnf
  refine C3 (fun h1=>?_) (fun h1=>?_)<;>rw [h1]<;>simp only [decide_eq_true_eq,decide_eq_false_iff_not] at h1
  ·conv=>whnf
   refine C3 (fun h2=>?_) (fun h2=>?_)<;>rw [h2]<;>simp only [decide_eq_true_eq,decide_eq_false_iff_not] at h2
   ·have hi':i<min l.length 8:=by omega
    conv=>whnf
    refine ⟨[21,22],[],List.range 24,by kernel_rfl,?_⟩;conv=>whnf
    refine ⟨rfl,⟨by omega,by omega⟩,?_⟩;conv=>whnf
    refine ⟨_,C9 (A9L _ _),?_⟩;conv=>whnf
    refine ⟨_,C9 (C0L _ _),?_⟩;conv=>whnf
    refine ⟨rfl,⟨by omega,by omega⟩,?_⟩;conv=>whnf
    refine ⟨_,C9 (A0u _ 10 (by decide) (by decide) _),?_⟩;conv=>whnf
    refine ⟨rfl,⟨by omega,by omega⟩,?_⟩;conv=>whnf
    refine ⟨_,C9 (L8 _ 4000 (by decide) (by decide) _),?_⟩;conv=>whnf
    refine G0.app (y:=A0Q (l.getD (i:Int).toNat default)) (q:=r56) rfl rfl rfl rfl rfl (by rfl) (by show (((l.take i).map A0Q).length+1) * 32≤140737488355328;rw [List.length_map,List.length_take];omega) hc (fun sv' t' hc'=>?_);conv=>whnf
    refine ⟨rfl,?_⟩;conv=>whnf
    refine nx hi' ⟨sv',by rw [C0 (by omega)],?_⟩
    rw [K2 (by omega),List.map_append];exact hc'
   ·conv=>whnf
    exact hfin (by omega)
  ·conv=>whnf
   exact hfin (by omega)
theorem A8l (l:List F0) (st:St):S P 19 [A7 3 E4 l] st fun v st'=>v=A7 3 E4 (Q9 l)∧st'=st:=W7 (B2D l st)
def N7 (l:List Ab.Item) (k:Nat):Ab.Item :=
 if k<l.length then ⟨A0C k,A4q (A2M (l.getD k default).cat),C1 (l.getD k default).price 4000,(l.getD k default).final&&k==7⟩ else ⟨A0C k,A4q k,100+37 * k,false⟩
def N0 (l:List Ab.Item):List Ab.Item:=(List.range 8).map (N7 l)
theorem A4P {α : Type} (f:Nat→α) (k:Nat):(List.range (k+1)).map f=(List.range k).map f++[f k]:=by rw [List.range_succ,List.map_append];rfl
theorem B4g (l:List Ab.Item) (st:St):S P 43 [A7 4 E3 l] st fun v st'=>v=A7 4 E3 (N0 l)∧st'=st:=by
 refine S.post (post:=fun v st'=>∃ base,F2 st base∧G0 76 4 E3 (N0 l) base v st') ?_ (fun v st' ⟨base,hs,hc⟩=>⟨_,st,⟨rfl,rfl⟩,hc.shift.trans (hs.shift _)⟩)
 refine A5 [] B7 mixed Tryz.func43 (by rfl) rfl rfl rfl ?_;conv=>whnf
 refine lp 8 [0,3,4] (fun k vs s=>∃ sv base,vs=[A7 4 E3 l,sv,eI k]∧F2 st base∧G0 76 4 E3 ((List.range k).map (N7 l)) base sv s) ?_ ?_
 ·conv=>whnf
  exact ⟨.emp,st,rfl,F2.refl _,G0.start _ _ _ _⟩
 ·rintro k vs s hk ⟨sv,base,rfl,hsup,hc⟩
  conv=>whnf
  refine C3 (fun h1=>?_) (fun h1=>?_)<;>rw [h1]<;>simp only [decide_eq_true_eq,decide_eq_false_iff_not] at h1
  ·have hk':k<8:=by omega
   have hnext:=A4P (N7 l) k
   have hlen:((List.range k).map (N7 l)).length=k:=by rw [List.length_map,List.length_range]
   have w1:IntKind.i64.wrap (100+IntKind.i64.wrap (37 * (k:Int)))=100+37 * (k:Int):=by
    rw [A9 (x:=37 * (k:Int)) (by omega) (by omega),A9 (by omega) (by omega)]
   conv=>whnf
   refine A4 (C0L _ _) ?_;conv=>whnf
   refine A4 (A3K _ _) ?_;conv=>whnf
   intro b hb;conv=>whnf
   refine K4 (A0 ..) rfl (by omega) rfl (by rfl) ?_
   rw [B6]
   have hbb:base b=none:=H7.off hc hb
   have hc1:=fun y=>H7.under (y:=y) hc hb
   have hend:∀ {t:St} {Y:Q5} {x:AV} {g:Nat→AV} {K:KK},t=upd s b Y→Y3 4 t x=some (1,g)→g 0=E3 (N7 l k)→(∀ sv' t',G0 76 4 E3 ((List.range (k+1)).map (N7 l)) (upd base b Y) sv' t'→K sv' t')→A5j T 22 sv x t K:=fun {t Y x g K} e hs hg hk=>by
    subst e
    refine G0.app (q:=r76) rfl rfl rfl rfl hs hg (by rw [hlen];show (k+1) * 48≤140737488355328;omega) (hc1 Y) (fun sv' t' hc'=>hk sv' t' ?_)
    rw [hnext];exact hc'
   conv=>whnf
   refine C3 (fun h2=>?_) (fun h2=>?_)<;>rw [h2]<;>simp only [decide_eq_true_eq,decide_eq_false_iff_not] at h2
   ·have hi:k<l.length:=by omega
    have hp:N7 l k=⟨A0C k,A4q (A2M (l.getD (k:Int).toNat default).cat),C1 (l.getD (k:Int).toNat default).price 4000,(l.getD (k:Int).toNat default).final&&k==7⟩:=by unfold N7;rw [if_pos hi];rfl
    conv=>whnf
    refine ⟨[23,25,27],[],List.range 28,by kernel_rfl,?_⟩;conv=>whnf
    refine ⟨rfl,⟨by omega,by omega⟩,?_⟩;conv=>whnf
    refine ⟨_,C9 (A9L _ _),?_⟩;conv=>whnf
    refine ⟨_,C9 (A3K _ _),?_⟩;conv=>whnf
    refine ⟨rfl,⟨by omega,by omega⟩,?_⟩;conv=>whnf
    refine ⟨_,C9 (L8 _ 4000 (by decide) (by decide) _),?_⟩;conv=>whnf
    refine ⟨rfl,⟨by omega,by omega⟩,?_⟩;conv=>whnf
    refine C3 (fun h3=>?_) (fun h3=>?_)<;>rw [h3] at hp ⊢
    all_goals
     conv=>whnf
     refine K4 (A0 ..) rfl (by omega) (A2 ..) (by rfl) ?_
     rw [B6];conv=>whnf
     refine K4 (A0 ..) rfl (by omega) (A2 ..) (by rfl) ?_
     rw [B6];conv=>whnf
     refine K4 (A0 ..) rfl (by omega) (A2 ..) (by rfl) ?_
     rw [B6];conv=>whnf
     refine E9 (A0 ..) rfl (by omega) (A2 ..) ?_;conv=>whnf
     refine hend rfl rfl (by rw [hp];first | rfl | (have e7:((k:Int)==7)=(k==7):=by rw [Bool.eq_iff_iff,beq_iff_eq,beq_iff_eq];omega
                                                    rw [Bool.true_and,←e7];rfl)) (fun sv' t' hc'=>?_)
     conv=>whnf
     refine ⟨rfl,?_⟩;conv=>whnf
     exact nx hk' ⟨sv',_,by rw [C0 (by omega)],hsup.upd hbb,hc'⟩
   ·have hi:¬ k<l.length:=by omega
    have hp:N7 l k=⟨A0C k,A4q k,100+37 * k,false⟩:=by unfold N7;rw [if_neg hi]
    conv=>whnf
    refine E9 (A0 ..) rfl (by omega) (A2 ..) ?_;conv=>whnf
    refine hend rfl rfl (by rw [hp];show AV.agg _=_;rw [w1];rfl) (fun sv' t' hc'=>?_);conv=>whnf
    refine ⟨rfl,?_⟩;conv=>whnf
    exact nx hk' ⟨sv',_,by rw [C0 (by omega)],hsup.upd hbb,hc'⟩
  ·obtain rfl:k=8:=by omega
   conv=>whnf
   exact ⟨base,hsup,hc⟩
def A4M (l:List Int) (out:List Int) (i:Nat):List Int:=if (out.any fun y=>y==1+C1 (gI l i) 5)=true then out else out++[1+C1 (gI l i) 5]
def O5 (l:List Int) (n:Nat):List Int:=(List.range n).foldl (A4M l) []
theorem A4N (l:List Int) (n:Nat):O5 l (n+1)=A4M l (O5 l n) n:=by unfold O5;rw [List.range_succ,List.foldl_append];rfl
theorem A9v (l:List Int) (n:Nat):(O5 l n).length≤n:=by
 induction n with
 | zero=>exact Nat.le_refl _
 | succ n ih =>
  rw [A4N];unfold A4M
  split
  ·omega
  ·rw [List.length_append];show _+1≤_;omega
def J5 (l:List Int):List Int:=O5 l (min l.length 6)
theorem B0G (l:List Int) (k:Int) (j:Nat) (hj:j<l.length):((l.take (j+1)).any fun y=>y==k)=((l.take j).any (fun y=>y==k)||(gI l j==k)):=by
 rw [K2 hj,List.any_append];simp
theorem A8k (l:List Int) (st:St):S P 76 [B3 l] st fun v st'=>v=B3 (J5 l)∧st'=st:=by
 refine W7 (ty:=3) ?_
 refine A5 [] B7 mixed Tryz.func76 (by rfl) rfl rfl rfl ?_;conv=>whnf
 refine lp (min l.length 6) [0,3,4] (fun i vs s=>∃ sv,vs=[B3 l,sv,eI i]∧G0 3 1 eI (O5 l i) st sv s) ?_ ?_
 ·conv=>whnf
  exact ⟨.emp,rfl,G0.start _ _ _ _⟩
 ·rintro i vs s hi ⟨sv,rfl,hc⟩
  have hlen:=A9v l i
  have hfin:i=min l.length 6→G0 3 1 eI (J5 l) st sv s:=fun e=>by unfold J5;rw [←e];exact hc
  conv=>whnf
  refine C3 (fun h1=>?_) (fun h1=>?_)<;>rw [h1]<;>simp only [decide_eq_true_eq,decide_eq_false_iff_not] at h1
  ·conv=>whnf
   refine C3 (fun h2=>?_) (fun h2=>?_)<;>rw [h2]<;>simp only [decide_eq_true_eq,decide_eq_false_iff_not] at h2
   ·have hi':i<min l.length 6:=by omega
    have hK:=A4N l i
    unfold A4M at hK
    have hm:=E1 (gI l (i:Int).toNat) (n:=5) (by decide)
    have hw:IntKind.i64.wrap (1+C1 (gI l (i:Int).toNat) 5)=1+C1 (gI l i) 5:=A9 (by omega) (by omega)
    conv=>whnf
    refine ⟨rfl,⟨by omega,by omega⟩,?_⟩;conv=>whnf
    refine A4 (A0u _ 5 (by decide) (by decide) _) ?_;conv=>whnf
    rw [hw]
    generalize hkk:1+C1 (gI l i) 5=k at hK
    have hcases:(sv=.emp∧O5 l i=[])∨∃ b g,sv=.own 1 b 0 (O5 l i).length∧s b=some ⟨3,1,(O5 l i).length,g⟩∧∀ j,j<(O5 l i).length→g j=eI (gI (O5 l i) j):=by
     rcases hc with ⟨h0,h3,_⟩ | ⟨_,b,g,_,h3,h4,h5⟩
     ·exact .inl ⟨h3,List.eq_nil_of_length_eq_zero h0⟩
     ·exact .inr ⟨b,g,h3,by rw [h4];exact A0 ..,h5⟩
    refine lp (O5 l i).length [0,3,4,5,6,7] (fun j vs t=>vs=[B3 l,sv,eI i,eI k,eB (((O5 l i).take j).any fun y=>y==k),eI j]∧t=s) ?_ ?_
    ·conv=>whnf
     exact ⟨rfl,rfl⟩
    ·rintro j vs t hj ⟨rfl,rfl⟩
     rcases hcases with ⟨rfl,hnil⟩ | ⟨b,g,rfl,hb,hg⟩
     ·have hj0:j=0:=by rw [hnil] at hj;exact Nat.le_zero.1 hj
      subst hj0
      have hK2:O5 l (i+1)=O5 l i++[k]:=by rw [hK,if_neg (by rw [hnil];simp)]
      conv=>whnf
      refine G0.app (q:=r3) rfl rfl rfl rfl rfl (by rfl) (by show ((O5 l i).length+1) * 8≤140737488355328;omega) hc (fun sv' t' hc'=>?_);conv=>whnf
      refine ⟨rfl,?_⟩;conv=>whnf
      exact nx hi' ⟨sv',by rw [C0 (by omega)],by rw [hK2];exact hc'⟩
     ·conv=>whnf
      cases h3:decide ((j:Int)<((O5 l i).length:Int))
      ·obtain rfl:=D1 h3 hj
       conv=>whnf
       rw [List.take_length]
       cases h4:(O5 l i).any fun y=>y==k
       ·rw [if_neg (by rw [h4];simp)] at hK;conv=>whnf
        refine G0.app (q:=r3) rfl rfl rfl rfl rfl (by rfl) (by show ((O5 l i).length+1) * 8≤140737488355328;omega) hc (fun sv' t' hc'=>?_);conv=>whnf
        refine ⟨rfl,?_⟩;conv=>whnf
        exact nx hi' ⟨sv',by rw [C0 (by omega)],by rw [hK];exact hc'⟩
       ·rw [if_pos h4] at hK;conv=>whnf
        refine ⟨rfl,?_⟩;conv=>whnf
        exact nx hi' ⟨_,by rw [C0 (by omega)],by rw [hK];exact hc⟩
      ·have hj':=F7 h3
       have hsucc:=B0G (O5 l i) k j hj'
       conv=>whnf
       cases h4:((O5 l i).take j).any fun y=>y==k
       ·rw [h4,Bool.false_or] at hsucc;conv=>whnf
        refine ⟨rfl,⟨by omega,by omega⟩,?_⟩;conv=>whnf
        refine E9 hb rfl (by omega) (v:=eI (gI (O5 l i) (j:Int).toNat)) (by rw [Nat.zero_add];exact hg _ (by omega)) ?_;conv=>whnf
        refine ⟨rfl,?_⟩;conv=>whnf
        refine nx hj' ⟨?_,rfl⟩
        rw [C0 (by omega),hsucc];rfl
       ·rw [h4,Bool.true_or] at hsucc;conv=>whnf
        refine ⟨rfl,?_⟩;conv=>whnf
        refine nx hj' ⟨?_,rfl⟩
        rw [C0 (by omega),hsucc]
   ·conv=>whnf
    exact hfin (by omega)
  ·conv=>whnf
   exact hfin (by omega)
def A9R (x:Y6) (least:Int):Y6:=⟨least,C1 x.rate 4000,1+C1 x.amount 300⟩
def O1 (l:List Y6) (step:Int):Nat→List Y6×Int
 | 0=>([],0)
 | i+1=>((O1 l step i).1++[A9R (l.getD i default) ((O1 l step i).2+C1 (l.getD i default).least step)],(O1 l step i).2+C1 (l.getD i default).least step+1)
theorem A6w (l:List Y6) (step:Int) (i:Nat):(O1 l step i).1.length=i:=by
 induction i with
 | zero=>rfl
 | succ i ih=>show (_++[_]).length=_;rw [List.length_append,ih];rfl
theorem A7t (l:List Y6) {step:Int} (h:0<step) (i:Nat):0≤(O1 l step i).2∧(O1 l step i).2≤i * step:=by
 induction i with
 | zero=>exact ⟨Int.le_refl _,by show (0:Int)≤((0:Nat):Int) * step;rw [Int.natCast_zero,Int.zero_mul];omega⟩
 | succ i ih =>
  have hm:=E1 (l.getD i default).least h
  show 0≤(O1 l step i).2+C1 (l.getD i default).least step+1∧(O1 l step i).2+C1 (l.getD i default).least step+1≤_
  rw [show ((i+1:Nat):Int) * step=i * step+step by rw [Int.natCast_add,Int.add_mul];simp]
  omega
def N2 (l:List Y6) (step:Int):List Y6:=if l.length=0 then [⟨Int.tdiv step 2,1000,0⟩] else (O1 l step (min l.length 3)).1
theorem A8m (l:List Y6) (step:Int) (h0:0<step) (h1:step≤5000) (st:St):S P 237 [A7 3 L4 l,eI step] st fun v st'=>v=A7 3 L4 (N2 l step)∧st'=st:=by
 refine W7 (ty:=257) ?_
 refine A5 [] B7 mixed Tryz.func237 (by rfl) rfl rfl rfl ?_;conv=>whnf
 refine lp (min l.length 3) [0,1,5,6,7] (fun i vs s=>∃ sv,vs=[A7 3 L4 l,eI step,sv,eI (O1 l step i).2,eI i]∧G0 257 3 L4 (O1 l step i).1 st sv s) ?_ ?_
 ·conv=>whnf
  exact ⟨.emp,rfl,G0.start _ _ _ _⟩
 ·rintro i vs s hi ⟨sv,rfl,hc⟩
  have hlen:=A6w l step i
  have hle:=A7t l h0 i
  have hip:(i:Int) * step≤3 * 5000:=Int.mul_le_mul (by omega) h1 (by omega) (by omega)
  have hsv:(i=0∧sv=.emp)∨(0<i∧∃ b,sv=.own 3 b 0 i):=by
   rcases hc with ⟨h2,h3,_⟩ | ⟨h2,b,_,_,h3,_⟩
   ·exact .inl ⟨by omega,h3⟩
   ·exact .inr ⟨by omega,b,by rw [h3,hlen]⟩
  have hw2:IntKind.i64.wrap (Int.tdiv step 2)=Int.tdiv step 2:=by
   rw [Int.tdiv_eq_ediv_of_nonneg (by omega)]
   exact A9 (by omega) (by omega)
  conv=>whnf
  refine C3 (fun h2=>?_) (fun h2=>?_)<;>rw [h2]<;>simp only [decide_eq_true_eq,decide_eq_false_iff_not] at h2
  case' refine_1 =>
   conv=>whnf
   refine C3 (fun h3=>?_) (fun h3=>?_)<;>rw [h3]<;>simp only [decide_eq_true_eq,decide_eq_false_iff_not] at h3
  case refine_1.refine_1 =>
   have hi':i<min l.length 3:=by omega
   have hm:=E1 (l.getD (i:Int).toNat default).least h0
   have hm2:=E1 (l.getD (i:Int).toNat default).amount (n:=300) (by decide)
   have e1:IntKind.i64.wrap ((O1 l step i).2+C1 (l.getD (i:Int).toNat default).least step)=(O1 l step i).2+C1 (l.getD (i:Int).toNat default).least step:=A9 (by omega) (by omega)
   have e2:IntKind.i64.wrap (1+C1 (l.getD (i:Int).toNat default).amount 300)=1+C1 (l.getD (i:Int).toNat default).amount 300:=A9 (by omega) (by omega)
   have e3:IntKind.i64.wrap ((O1 l step i).2+C1 (l.getD (i:Int).toNat default).least step+1)=(O1 l step i).2+C1 (l.getD (i:Int).toNat default).least step+1:=A9 (by omega) (by omega)
   conv=>whnf
   refine ⟨rfl,⟨by omega,by omega⟩,?_⟩;conv=>whnf
   refine A4 (L8 _ step h0 (by omega) _) ?_;conv=>whnf
   rw [e1]
   refine ⟨[16,17],[],List.range 19,by kernel_rfl,?_⟩;conv=>whnf
   refine ⟨rfl,⟨by omega,by omega⟩,?_⟩;conv=>whnf
   refine ⟨_,C9 (L8 _ 4000 (by decide) (by decide) _),?_⟩;conv=>whnf
   refine ⟨rfl,⟨by omega,by omega⟩,?_⟩;conv=>whnf
   refine ⟨_,C9 (L8 _ 300 (by decide) (by decide) _),?_⟩;conv=>whnf
   rw [e2]
   refine G0.app (y:=A9R (l.getD (i:Int).toNat default) ((O1 l step i).2+C1 (l.getD (i:Int).toNat default).least step)) (q:=C0p) rfl rfl rfl rfl rfl (by rfl) (by show ((O1 l step i).1.length+1) * 24≤140737488355328;omega) hc (fun sv' t' hc'=>?_);conv=>whnf
   rw [e3]
   refine ⟨rfl,?_⟩;conv=>whnf
   exact nx hi' ⟨sv',by rw [C0 (by omega)];rfl,hc'⟩
  all_goals
   have hie:i=min l.length 3:=by omega
   conv=>whnf
   rcases hsv with ⟨rfl,rfl⟩ | ⟨hp,b,rfl⟩
   ·have hl0:l.length=0:=by omega
    have hT:N2 l step=[⟨Int.tdiv step 2,1000,0⟩]:=by unfold N2;rw [if_pos hl0]
    rw [hT];conv=>whnf
    refine G0.app (y:=⟨Int.tdiv step 2,1000,0⟩) (q:=C0p) rfl rfl rfl rfl rfl (by show AV.agg [eI (IntKind.i64.wrap (Int.tdiv step 2)),eI 1000,eI 0]=_;rw [hw2];rfl) (by show (0+1) * 24≤140737488355328;omega) hc (fun sv' t' hc'=>?_);conv=>whnf
    exact hc'
   ·have hT:N2 l step=(O1 l step i).1:=by unfold N2;rw [if_neg (by omega),hie]
    rw [hT];conv=>whnf
    rw [show ((i:Int)==0)=false by rw [beq_eq_false_iff_ne];omega];conv=>whnf
    exact hc
theorem B4J (l:List D7) (most:Nat) (kinds:Int) (name:Int→D7) (k:Nat):∃ ks:List Nat,P6 l most kinds name k=ks.map (fun x:Nat=>name x)∧ks.Pairwise (·<·)∧(∀ x∈ks,x<k)∧ks.length≤most:=by
 induction k with
 | zero=>exact ⟨[],rfl,.nil,⟨fun x hx=>absurd hx List.not_mem_nil,Nat.zero_le _⟩⟩
 | succ k ih =>
  obtain ⟨ks,h1,h2,h3,h4⟩:=ih
  rw [A5e];unfold A5d
  split
  ·rename_i hc
   rw [Bool.and_eq_true,decide_eq_true_eq,h1,List.length_map] at hc
   refine ⟨ks++[k],by rw [h1,List.map_append];rfl,List.pairwise_append.2 ⟨h2,List.pairwise_singleton _ _,fun a ha b hb=>by rw [List.mem_singleton] at hb;subst hb;exact h3 a ha⟩,fun x hx=>?_,by rw [List.length_append];show ks.length+1≤most;omega⟩
   rcases List.mem_append.1 hx with h | h
   ·have:=h3 x h;omega
   ·rw [List.mem_singleton] at h;omega
  ·exact ⟨ks,h1,h2,fun x hx=>by have:=h3 x hx;omega,h4⟩
theorem A6m {l:List D7} {most:Nat} {kinds:Int} {name:Int→D7} {k:Nat} (hn:∀ x:Nat,x<k→F1 (name x)=true) (hr:∀ x y:Nat,x<y→y<k→slt (name x) (name y)=true):Z8 (P6 l most kinds name k)=true∧(P6 l most kinds name k).length≤most∧∀ s∈P6 l most kinds name k,s.size≤12:=by
 obtain ⟨ks,h1,h2,h3,h4⟩:=B4J l most kinds name k
 rw [h1]
 have hall:∀ s∈ks.map (fun x:Nat=>name x),F1 s=true:=fun s hs=>by
  obtain ⟨x,hx,rfl⟩:=List.mem_map.1 hs;exact hn x (h3 x hx)
 refine ⟨?_,by rw [List.length_map];exact h4,fun s hs=>?_⟩
 ·unfold Z8
  rw [Bool.and_eq_true,Bool.not_eq_true',List.any_eq_false]
  refine ⟨?_,fun s hs=>by rw [hall s hs];simp⟩
  unfold Y1
  rw [List.all_eq_true]
  intro j hj
  have hj:=List.mem_range.1 hj
  rw [List.length_map] at hj
  unfold L3
  rw [Bool.or_eq_true,beq_iff_eq]
  by_cases e:j=0
  ·exact .inl e
  ·refine .inr ?_
   have g:∀ i,i<ks.length→(ks.map (fun x:Nat=>name x)).getD i default=name (ks.getD i 0:Nat):=fun i hi=>by
    rw [List.getD_eq_getElem?_getD,List.getElem?_map,List.getElem?_eq_getElem hi,List.getD_eq_getElem?_getD,List.getElem?_eq_getElem hi];rfl
   rw [g _ (by omega),g _ hj]
   have gm:∀ i,i<ks.length→ks.getD i 0=ks[i]!:=fun i hi=>by rw [List.getD_eq_getElem?_getD,List.getElem?_eq_getElem hi,getElem!_pos ks i hi];rfl
   refine hr _ _ ?_ (h3 _ ?_)
   ·rw [gm _ (by omega),gm _ hj,getElem!_pos ks _ (by omega),getElem!_pos ks _ hj]
    exact List.pairwise_iff_getElem.1 h2 _ _ (by omega) hj (by omega)
   ·rw [gm _ hj,getElem!_pos ks _ hj];exact List.getElem_mem _
 ·have:=hall s hs
  unfold F1 at this
  simp only [Bool.and_eq_true,decide_eq_true_eq] at this
  exact this.1.2
theorem B8A:((List.range 8).all fun x=>F1 (A0C (x:Nat)))=true:=by kernel_rfl
theorem C0M:((List.range 8).all fun y=>(List.range y).all fun x=>slt (A0C (x:Nat)) (A0C (y:Nat)))=true:=by kernel_rfl
theorem B7C:((List.range 3).all fun x=>F1 (A4q (x:Nat)))=true:=by kernel_rfl
theorem B9v:((List.range 3).all fun y=>(List.range y).all fun x=>slt (A4q (x:Nat)) (A4q (y:Nat)))=true:=by kernel_rfl
theorem B5j:((List.range 3).all fun x=>F1 (A4e (x:Nat)))=true:=by kernel_rfl
theorem B7H:((List.range 3).all fun y=>(List.range y).all fun x=>slt (A4e (x:Nat)) (A4e (y:Nat)))=true:=by kernel_rfl
theorem B2L {name:Int→D7} {k:Nat} (h:((List.range k).all fun y=>(List.range y).all fun x=>slt (name (x:Nat)) (name (y:Nat)))=true) (x y:Nat) (hxy:x<y) (hy:y<k):slt (name x) (name y)=true :=
 List.all_eq_true.1 (List.all_eq_true.1 h y (List.mem_range.2 hy)) x (List.mem_range.2 hxy)
theorem B2p {name:Int→D7} {k:Nat} (h:((List.range k).all fun x=>F1 (name (x:Nat)))=true) (x:Nat) (hx:x<k):F1 (name x)=true:=List.all_eq_true.1 h x (List.mem_range.2 hx)
theorem A1W (s:O4):A0o (N9 s)=true∧A1q (N9 s):=by
 obtain ⟨a1,a2,a3⟩:=A6m (l:=s.skus) (most:=3) (kinds:=8) (name:=A0C) (k:=8) (B2p B8A) (B2L C0M)
 obtain ⟨b1,b2,b3⟩:=A6m (l:=s.cats) (most:=2) (kinds:=3) (name:=A4q) (k:=3) (B2p B7C) (B2L B9v)
 unfold N9
 generalize P6 s.skus 3 8 A0C 8=A at a1 a2 a3 ⊢
 generalize P6 s.cats 2 3 A4q 3=B at b1 b2 b3 ⊢
 refine ⟨?_,?_⟩
 ·unfold A0o
  rw [a1,b1,decide_eq_true (show A.length≤20 by omega),decide_eq_true (show B.length≤20 by omega)];rfl
 ·exact ⟨by show A.length≤_;omega,by show B.length≤_;omega,fun x hx=>by have:=a3 x hx;show x.size≤_;omega,fun x hx=>by have:=b3 x hx;show x.size≤_;omega⟩
theorem B2C (l:List D7):R8 (A0w l)=true∧(A0w l).length≤3∧∀ s∈A0w l,s.size≤12:=by
 obtain ⟨a1,a2,a3⟩:=A6m (l:=l) (most:=3) (kinds:=3) (name:=A4e) (k:=3) (B2p B5j) (B2L B7H)
 unfold A0w
 generalize P6 l 3 3 A4e 3=A at a1 a2 a3 ⊢
 refine ⟨?_,a2,a3⟩
 unfold Z8 at a1
 rw [Bool.and_eq_true] at a1
 unfold R8
 rw [a1.1,a1.2,decide_eq_true (by omega)];rfl
theorem C5g (n:Int):C1 n 8=0∨C1 n 8=1∨C1 n 8=2∨C1 n 8=3∨C1 n 8=4∨C1 n 8=5∨C1 n 8=6∨C1 n 8=7:=by
 have:=E1 n (n:=8) (by decide);omega
theorem C0K (k:Nat) (h:k<8):A0C k=V0 (97+k):=by
 unfold A0C C1;congr 2;omega
theorem B1F (l:List Ab.Item):(N0 l).map Ab.Item.sku=[V0 97,V0 98,V0 99,V0 100,V0 101,V0 102,V0 103,V0 104]:=by
 unfold N0
 rw [List.map_map]
 have e:∀ k,k<8→(Ab.Item.sku ∘ N7 l) k=V0 (97+(k:Int)):=fun k hk=>by
  rw [←C0K k hk]
  show (N7 l k).sku=_
  unfold N7;split<;>rfl
 have:(List.range 8).map (Ab.Item.sku ∘ N7 l)=(List.range 8).map fun k:Nat=>V0 (97+(k:Int)):=List.map_congr_left fun k hk=>e k (List.mem_range.1 hk)
 rw [this];rfl
theorem A2Y (l:List Ab.Item):(N0 l).length=8:=by unfold N0;rw [List.length_map,List.length_range]
theorem B7X (items:List Ab.Item) (s:D7):known items s=(items.map Ab.Item.sku).any fun y=>y.toList==s.toList:=by
 unfold known V8
 rw [A1s,List.any_map];rfl
theorem A9w (l:List Ab.Item) (n:Int):known (N0 l) (A0C n)=true:=by
 rw [B7X,B1F]
 unfold A0C
 rcases C5g n with h | h | h | h | h | h | h | h<;>rw [h]<;>kernel_rfl
theorem B4h (x:F0):(0≤(A0Q x).qty∧(A0Q x).qty≤9)∧0≤(A0Q x).price∧(A0Q x).price<4000:=by
 have h1:=E1 x.qty (n:=10) (by decide)
 have h2:=E1 x.price (n:=4000) (by decide)
 exact ⟨⟨h1.1,by show C1 x.qty 10≤9;omega⟩,h2.1,h2.2⟩
structure A0E (l:List F0):Prop where
 len:l.length≤8
 line:∀ x∈l,(0≤x.qty∧x.qty≤9)∧0≤x.price∧x.price<4000
 sku:∀ x∈l,∃ n,x.sku=A0C n
theorem A3S (l:List F0):A0E (Q9 l):=by
 unfold Q9
 refine ⟨by rw [List.length_map,List.length_take];omega,fun x hx=>?_,fun x hx=>?_⟩
 ·obtain ⟨y,_,rfl⟩:=List.mem_map.1 hx;exact B4h y
 ·obtain ⟨y,_,rfl⟩:=List.mem_map.1 hx;exact ⟨A2M y.sku,rfl⟩
theorem A0E.lineC {l:List F0} (h:A0E l) {x:F0} (hx:x∈l):lineC x=true:=by
 have:=h.line x hx
 rw [Y8];omega
theorem C2L {l:List F0} (h1:∀ x∈l,(0≤x.qty∧x.qty≤9)∧0≤x.price∧x.price<4000):(0≤I9 l∧I9 l≤9 * l.length)∧0≤I0 l∧I0 l≤36000 * l.length:=by
 have:∀ (l:List F0) (a b:Int),(∀ x∈l,(0≤x.qty∧x.qty≤9)∧0≤x.price∧x.price<4000)→(a≤l.foldl (fun s x=>s+x.qty) a∧l.foldl (fun s x=>s+x.qty) a≤a+9 * l.length)∧b≤l.foldl (fun s x=>s+x.qty * x.price) b∧l.foldl (fun s x=>s+x.qty * x.price) b≤b+36000 * l.length:=by
  intro l
  induction l with
  | nil=>intro a b _;simp
  | cons y l ih =>
   intro a b h
   have hy:=h y (List.mem_cons_self ..)
   have h0:0≤y.qty * y.price:=Int.mul_nonneg hy.1.1 hy.2.1
   have h9:y.qty * y.price≤9 * 4000:=Int.mul_le_mul hy.1.2 (by omega) hy.2.1 (by omega)
   have:=ih (a+y.qty) (b+y.qty * y.price) fun x hx=>h x (List.mem_cons_of_mem _ hx)
   rw [List.foldl_cons,List.foldl_cons,List.length_cons]
   omega
 have:=this l 0 0 h1
 unfold I9 I0;omega
theorem B5v {kn:D7→Bool} {l:List F0} (h:∀ x∈l,kn x.sku=true∧lineC x=true):l.find? (I2 kn)=none:=by
 rw [List.find?_eq_none]
 intro x hx
 unfold I2
 rw [(h x hx).1,(h x hx).2];simp
theorem A0E.check {l:List F0} (h:A0E l) {kn:D7→Bool} (hk:∀ n,kn (A0C n)=true):H0 kn l=0:=by
 unfold H0
 have hl:=h.len
 have hs:=C2L h.line
 rw [if_neg (by omega),B5v fun x hx=>⟨by obtain ⟨n,hn⟩:=h.sku x hx;rw [hn];exact hk n,h.lineC hx⟩]
 show (if _ then (5:Int) else 0)=0
 rw [if_neg]
 rw [decide_eq_false (by omega),decide_eq_false (by omega)];decide
end Go.Proofs.YthdimklenlikgaaGreat
