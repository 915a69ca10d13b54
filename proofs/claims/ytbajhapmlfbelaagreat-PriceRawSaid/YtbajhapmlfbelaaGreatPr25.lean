/- Part 25 of the proof: contracts of the functions that the law reaches -/
import Derived.Test.YtbajhapmlfbelaaGreatPr24
set_option maxRecDepth 100000
set_option linter.unusedVariables false
set_option linter.unusedSimpArgs false
namespace Go.Proofs.YtbajhapmlfbelaaGreat
open Go Go.Ab
attribute [local irreducible] upd del
def P8 (pr:A9):Bool:=!(pr.kind==7)
def U7 (pr:A9):Bool:=pr.kind==7
def p1B (r:I6) (l:List G1) (o:List Int):PSt:=T0 (fun p=>p) (A3e (C8 r.items l)) P8 r.promos ⟨Q9 l,[],[]⟩ o
def K0 (p:PSt):Int:=A5 (D5 p.us)
def p2B (r:I6) (l:List G1) (p1:PSt) (o:List Int):PSt×Int:=T0 (fun a=>a.1) (Q6 (K0 p1)) U7 r.promos (p1,Z0 r.ship (Q9 l).length (K0 p1)) o
def Q7 (r:I6) (l:List G1) (o1 o2:List Int):A5l:=⟨R5 l.length (p1B r l o1).us,K0 (p1B r l o1),(p2B r l (p1B r l o1) o2).2,(p2B r l (p1B r l o1) o2).1.deals⟩
theorem B6i {σ : Type} {px : σ→PSt} {step : σ→A9→σ} {sm:A9→Bool} {l:List A9} {Inv : σ→Nat→Prop} (hle:∀ a n,Inv a (n+1)→Inv a n) (hinv:∀ (a : σ) (n:Nat) (pr:A9),pr∈l→sm pr=true→Inv a (n+1)→Inv (step a pr) n) :
  ∀ (o:List Int) (a : σ) (n:Nat),(∀ x∈o,x.toNat<l.length)→Inv a (n+o.length)→Inv (T0 px step sm l a o) n:=by
 intro o
 unfold T0
 induction o with
 | nil=>intro a n _ h;exact h
 | cons x o ih =>
  intro a n hm h
  have hm':∀ y∈o,y.toNat<l.length:=fun y hy=>hm y (List.mem_cons_of_mem _ hy)
  have hx:E6 l x∈l:=B4 (hm x (List.mem_cons_self ..))
  have h':Inv a ((n+o.length)+1):=by rw [List.length_cons] at h;exact h
  by_cases hs:sm (E6 l x)=true
  ·rw [List.filter_cons_of_pos (p:=fun x=>sm (E6 l x)) hs,List.foldl_cons]
   refine ih _ _ hm' ?_
   unfold goB
   split
   ·exact hinv a _ _ hx hs h'
   ·exact hle _ _ h'
  ·rw [List.filter_cons_of_neg (p:=fun x=>sm (E6 l x)) hs]
   exact ih _ _ hm' (hle _ _ h')
def C0g (items:List Ab.Item) (us0:List B5) (p:PSt) (n:Nat):Prop:=A4Y items p.us∧p.deals.length+n≤100∧p.groups.length+n≤100∧∃ x,Off us0 p.us x
def C2b (a:PSt×Int) (n:Nat):Prop:=a.1.deals.length+n≤200∧a.1.groups.length+n≤200∧0≤a.2∧a.2≤10000000000000
theorem B0l {items:List Ab.Item} {us0:List B5} {a:PSt} {n:Nat} {pr:A9} (hfit:M9 pr) (hright:F6 pr=true) (hk:P8 pr=true) (h:C0g items us0 a (n+1)):C0g items us0 (A3e items a pr) n:=by
 obtain ⟨h1,h2,h3,x,h4⟩:=h
 obtain ⟨y,h5⟩:=B2j h1 hfit hright (by simpa [P8] using hk)
 refine ⟨h1.off h5,?_,?_,x+y,h4.trans h5⟩
 ·unfold A3e;split
  ·simp only [A0s,List.length_append,List.length_cons,List.length_nil];omega
  ·omega
 ·unfold A3e;split
  ·simp only [A0s,List.length_append]
   split<;>simp<;>omega
  ·omega
theorem B0m {net:Int} {a:PSt×Int} {n:Nat} {pr:A9} (hright:F6 pr=true) (hk:U7 pr=true) (h:C2b a (n+1)):C2b (Q6 net a pr) n:=by
 obtain ⟨h1,h2,h3,h4⟩:=h
 have hk7:pr.kind=7:=by simpa [U7] using hk
 have hr:=(A2i hright).ship hk7
 have hb:=P4 a.2 pr.rate
 have hle:=A3s h3 (show 0≤pr.rate by omega) hr.2
 unfold Q6 A5i
 split
 ·exact ⟨by show a.1.deals.length+n≤200;omega,by show a.1.groups.length+n≤200;omega,h3,h4⟩
 ·refine ⟨?_,?_,by show 0≤a.2 - H4 a.2 pr.rate;omega,by show a.2 - H4 a.2 pr.rate≤_;omega⟩
  ·show (if H4 a.2 pr.rate>0 then A0s a.1 pr (H4 a.2 pr.rate) else a.1).deals.length+n≤200
   split
   ·simp only [A0s,List.length_append,List.length_cons,List.length_nil];omega
   ·omega
  ·show (if H4 a.2 pr.rate>0 then A0s a.1 pr (H4 a.2 pr.rate) else a.1).groups.length+n≤200
   split
   ·simp only [A0s,List.length_append]
    split<;>simp<;>omega
   ·omega
theorem PxR.deals' {bx:Nat} {items:List Ab.Item} {p:PSt} {s t:St} (h:PxR bx items p s t):∃ dv gv f,t bx=some ⟨147,4,1,f⟩∧f 0=.agg [B2 4 F4 items,C6 p.us,dv,gv] ∧
  ((p.deals=[]∧dv=.emp)∨∃ bd g,dv=.own 2 bd 0 p.deals.length∧s bd=none∧t bd=some ⟨134,2,p.deals.length,g⟩∧∀ k,k<p.deals.length→g k=A0o p.deals k):=by
 obtain ⟨⟨dv,gv⟩,h⟩:=h
 obtain ⟨y,⟨f,rfl,hf⟩,hy⟩:=A0T.at (A2a _ _ _ _) h
 obtain ⟨hbx,_,_,hd⟩:=h
 obtain ⟨s0,hc,hg0⟩:=hd
 refine ⟨dv,gv,f,hy,hf,?_⟩
 rcases hc with ⟨h0,h1,rfl⟩ | ⟨h0,b,g0,hb,h1,rfl,hgg⟩
 ·exact .inl ⟨List.eq_nil_of_length_eq_zero h0,h1⟩
 ·refine .inr ⟨b,g0,h1,?_,(A5V _ _).sup hg0 b _ (A0 ..),hgg⟩
  by_cases e:b=bx
  ·subst e;rw [A0] at hb;cases hb
  ·rw [B1 e] at hb;exact hb
structure C0c (r:I6) (codes:List D7) (l:List G1):Prop where
 rules:P6 r=true
 codes:A0n codes=true
 lines:A5O r.items l
 few:r.promos.length≤60
 promo:∀ p∈r.promos,F6 p=true
 fee:0≤r.ship.fee∧r.ship.fee≤1000000000
theorem A7N {r:I6} {codes:List D7} {l:List G1} (h:D0 r codes l=0):C0c r codes l:=by
 unfold D0 at h
 split at h
 ·cases h
 ·rename_i h1
  split at h
  ·cases h
  ·rename_i h2
   have hr:P6 r=true:=by simpa using h1
   have hr':=hr
   unfold P6 at hr'
   simp only [Bool.and_eq_true] at hr'
   obtain ⟨⟨⟨⟨_,hp⟩,_⟩,hs⟩,_⟩:=hr'
   unfold promosC at hp
   simp only [Bool.and_eq_true,decide_eq_true_eq] at hp
   have hs':P7 0 1000000000 r.ship.fee=true:=by
    unfold A7w at hs
    simp only [Bool.and_eq_true] at hs
    exact hs.1
   refine ⟨hr,by simpa using h2,C0P h,by omega,fun p hm=>?_,K4.1 hs'⟩
   obtain ⟨k,hk,rfl⟩:=F0 hm
   have:=B0d.1 hp.2 k hk
   unfold R3 at this
   simp only [Bool.and_eq_true] at this
   exact this.1
def C2f (r:I6) (codes:List D7) (l:List G1) (v:AV):Prop :=
 (D0 r codes l≠0∧v=.tuple [U1 ⟨[],0,0,[]⟩,eI (D0 r codes l)]) ∨
 (D0 r codes l=0∧∃ o1 o2,A6G r.promos codes o1∧A6G r.promos codes o2∧v=.tuple [U1 (Q7 r l (L3 r.promos o1) (L3 r.promos o2)),eI 0])
theorem price_S {N:Nat} (hN:A2C N) (r:I6) (codes:List D7) (l:List G1) (hf:U3 r) (hc:codes.length≤Big) (hi:r.items.length≤9223372036854775807) (h20:(places r.promos codes r.promos.length).length≤N) (st:St) :
  S P 18 [J6 r,D9 codes,B2 3 I9 l] st fun v st'=>C2f r codes l v∧st'=st:=by
 refine S.post (post:=fun v st'=>(D0 r codes l≠0∧v=.tuple [.agg [.emp,eI 0,eI 0,.emp],eI (D0 r codes l)]∧G3 st st') ∨
   (D0 r codes l=0∧∃ o1 o2 bn fn dv,A6G r.promos codes o1∧A6G r.promos codes o2∧v=.tuple [.agg [.own 1 bn 0 l.length,eI (Q7 r l (L3 r.promos o1) (L3 r.promos o2)).net,eI (Q7 r l (L3 r.promos o1) (L3 r.promos o2)).ship,dv],eI 0] ∧
    st bn=none∧st' bn=some ⟨2,1,l.length,fn⟩∧(∀ k,k<l.length→fn k=eI (gI (Q7 r l (L3 r.promos o1) (L3 r.promos o2)).nets k))∧G3 st st' ∧
    (((Q7 r l (L3 r.promos o1) (L3 r.promos o2)).deals=[]∧dv=.emp)∨∃ bd g,dv=.own 2 bd 0 (Q7 r l (L3 r.promos o1) (L3 r.promos o2)).deals.length∧st bd=none∧bd≠bn∧st' bd=some ⟨134,2,(Q7 r l (L3 r.promos o1) (L3 r.promos o2)).deals.length,g⟩∧∀ k,k<(Q7 r l (L3 r.promos o1) (L3 r.promos o2)).deals.length→g k=A0o (Q7 r l (L3 r.promos o1) (L3 r.promos o2)).deals k))) ?_
  (fun v st' hv=>by
   rcases hv with ⟨h1,rfl,hs⟩ | ⟨h1,o1,o2,bn,fn,dv,h2,h3,rfl,h4,h5,h6,hs,h7⟩
   ·refine ⟨_,st,⟨.inl ⟨h1,rfl⟩,rfl⟩,(hs.shift _).trans (B3.tuple (B3.cons (B3.agg ?_) (B3.keep _ _)) rfl)⟩
    exact B3.cons (I8 1 _) (B3.cons (B3.keep [eI 0] _) (B3.cons (B3.keep [eI 0] _) (I8 2 _)))
   ·refine ⟨_,st,⟨.inr ⟨h1,o1,o2,h2,h3,rfl⟩,rfl⟩,B3.tuple (B3.cons (B3.agg ?_) (B3.keep _ _)) rfl⟩
    have hnl:(Q7 r l (L3 r.promos o1) (L3 r.promos o2)).nets.length=l.length:=by show (R5 _ _).length=_;unfold R5;rw [List.length_map,List.length_range]
    generalize Q7 r l (L3 r.promos o1) (L3 r.promos o2)=X at *
    have e1:B6 X.nets=.arr 1 l.length (fun k=>eI (gI X.nets k)):=by unfold B6 B2;rw [hnl]
    refine B3.cons (t:=del st' bn) ?_ (B3.cons (B3.keep [eI X.net] _) (B3.cons (B3.keep [eI X.ship] _) ?_))
    ·rw [e1];exact O0 h5 rfl (Nat.le_refl _) h6
    ·rcases h7 with ⟨h8,rfl⟩ | ⟨bd,g,rfl,h8,h9,h10,h11⟩
     ·rw [h8]
      exact ((G3.del hs h4).shift _).trans (I8 2 _)
     ·refine (O0 (b:=bd) (y:=⟨134,2,X.deals.length,g⟩) (f:=A0o X.deals) (by rw [A1g h9];exact h10) rfl (Nat.le_refl _) h11).trans ?_
      exact (G3.del (G3.del hs h4) h8).shift _)
 refine A8 [3,9,10,13] B9 mixed Tryz.func18 (by rfl) rfl rfl rfl ?_;conv=>whnf
 intro b6 hb6;conv=>whnf
 refine B0 (B8P r codes l hf hc hi _) ?_;conv=>whnf
 have h6s:∀ x:Q3,G3 st (upd st b6 x):=fun x=>(G3.refl st).upd hb6
 cases h1:(D0 r codes l != 0)
 ·have hk0:D0 r codes l=0:=by simpa using h1
  have hck:=A7N hk0
  have hln:=hck.lines
  have hlen:=hln.len
  have hus0:=B1V hln
  obtain ⟨u1,u2,u3⟩:=A1b l hln.line l.length (Nat.le_refl _)
  have hitl:(C8 r.items l).length=l.length:=List.length_map ..
  have hmo:=fun {o:List Int} (ho:A6G r.promos codes o)=>(show (L3 r.promos o).length≤60 by
   rw [List.length_map,A3q,ho.1.length_eq]
   have:=S7 r.promos codes r.promos.length
   have:=hck.few;omega)
  conv=>whnf
  refine B0 (B6s r.items l hi hlen hln.known _) ?_;conv=>whnf
  refine B0 (C1D l hlen (fun x hx=>((W6 x).1 (hln.line x hx)).1) hus0.ok.len hln.may _) ?_;conv=>whnf
  generalize hs6:(upd st b6 _)=s6 at *
  have h6:s6 b6=some ⟨44,4,1,fun _=>J7 r44.zero⟩:=by rw [←hs6];exact A0 ..
  have hBig:(Big:Nat)≤9223372036854775807:=by decide
  have hst6:G3 st s6:=by rw [←hs6];exact h6s _
  intro bx hbx;conv=>whnf
  have hP0:PxR bx (C8 r.items l) ⟨Q9 l,[],[]⟩ s6 (upd s6 bx ⟨147,4,1,fun _=>.agg [B2 4 F4 (C8 r.items l),C6 (Q9 l),.emp,.emp]⟩) :=
   PxR.mk' hbx rfl (ROut.start (ROut.start (G3.refl _) _ _ _) _ _ _)
  refine call (B5B (σ:=PSt) hN bx (C8 r.items l) (PxR bx (C8 r.items l)) (fun p=>p) (A3g bx (C8 r.items l)) (fun a s t t' h hs=>h.more hs) (fun a s t h=>⟨s,h⟩) r.promos codes hck.few (Nat.le_trans hc hBig) h20 79 [.fptr (.fn (.func 77) [] []) 0] P8 (fun pr t=>B8I pr t)
   80 [.optr 4 bx 0 0] [] (A3e (C8 r.items l)) (C0g (C8 r.items l) (Q9 l)) (fun a n h=>by have:=h.2.2.1;omega) (fun a n h=>⟨h.1,by have:=h.2.1;omega,by have:=h.2.2.1;omega,h.2.2.2⟩)
   (fun a n pr s t hm hs hI h=>C3x bx (C8 r.items l) a pr (hf.fit pr hm) (hck.promo pr hm) (by simpa [P8] using hs) hI.1 (by have:=hI.2.1;omega) (by have:=hI.2.2.1;omega) s t h)
   (fun a n pr hm hs hI=>B0l (hf.fit pr hm) (hck.promo pr hm) hs hI) ⟨Q9 l,[],[]⟩ ⟨hus0,by simp,by simp,0,Off.refl hus0.ok⟩ s6 _ hP0) (fun v t1 hv=>?_)
  obtain ⟨rfl,o1,ho1,hP1⟩:=hv
  have hp1:T0 (fun p=>p) (A3e (C8 r.items l)) P8 r.promos ⟨Q9 l,[],[]⟩ (L3 r.promos o1)=p1B r l (L3 r.promos o1):=rfl
  have hI1:C0g (C8 r.items l) (Q9 l) (p1B r l (L3 r.promos o1)) 40:=B6i (fun a n h=>⟨h.1,by have:=h.2.1;omega,by have:=h.2.2.1;omega,h.2.2.2⟩) (fun a n pr hm hs hI=>B0l (hf.fit pr hm) (hck.promo pr hm) hs hI) (L3 r.promos o1) ⟨Q9 l,[],[]⟩ 40 (fun x hx=>(B3h ho1 hx).2) ⟨hus0,by have:=hmo ho1;show 0+(40+(L3 r.promos o1).length)≤100;omega,by have:=hmo ho1;show 0+(40+(L3 r.promos o1).length)≤100;omega,0,Off.refl hus0.ok⟩
  rw [hp1] at hP1
  have hQ:∀ o2,Q7 r l (L3 r.promos o1) (L3 r.promos o2)=⟨R5 l.length (p1B r l (L3 r.promos o1)).us,K0 (p1B r l (L3 r.promos o1)),(p2B r l (p1B r l (L3 r.promos o1)) (L3 r.promos o2)).2,(p2B r l (p1B r l (L3 r.promos o1)) (L3 r.promos o2)).1.deals⟩:=fun _=>rfl
  generalize p1B r l (L3 r.promos o1)=p1 at *
  obtain ⟨hus1,hd1,hg1,xoff,hoff⟩:=hI1
  have hul1:p1.us.length=(Q9 l).length:=hoff.len
  have hu1:=hus1.ok
  have hul:=hu1.len
  have hus:=hu1.sum
  have hnet0:=C9 hu1.nets0
  have hBP:=A3g bx (C8 r.items l) p1
  conv=>whnf
  refine mkO rfl rfl rfl (by show 8 * l.length≤_;omega) (by omega) (by rfl) (fun bn hbn=>?_);conv=>whnf
  intro bp hbp
  have hnb:bn≠bp:=fun e=>by subst e;rw [A0] at hbp;cases hbp
  have hbp1:t1 bp=none:=by rw [B1 hnb.symm] at hbp;exact hbp
  have hbn6:s6 bn=none:=(hBP.sup hP1).none hbn
  have hbp6:s6 bp=none:=(hBP.sup hP1).none hbp1
  conv=>whnf
  refine K8 (A0 ..) rfl (by omega) rfl (by rfl) ?_;conv=>whnf
  -- the pricer,what the lines come to,what is made of it
  have hP2:=fun (Y Z:Q3)=>hBP.begin (y:=Z) (hBP.begin (y:=Y) hP1 hbn) (by rw [B1 hnb.symm];exact hbp1)
  have hload:∀ {Y Z:Q3} {t:St},PxR bx (C8 r.items l) p1 (upd (upd s6 bn Y) bp Z) t→t bn=some Y∧t bp=some Z:=fun h=>⟨hBP.sup h bn _ (by rw [B1 hnb,A0]),hBP.sup h bp _ (A0 ..)⟩
  have hwn:∀ {Y Z Y':Q3} {t:St},PxR bx (C8 r.items l) p1 (upd (upd s6 bn Y) bp Z) t→PxR bx (C8 r.items l) p1 (upd (upd s6 bn Y') bp Z) (upd t bn Y'):=fun {Y Z Y' t} h=>by
   have:=hBP.write (b:=bn) (y':=Y') h (by rw [B1 hnb,A0])
   rw [O6 hnb.symm,C5] at this;exact this
  have hwp:∀ {Y Z Z':Q3} {t:St},PxR bx (C8 r.items l) p1 (upd (upd s6 bn Y) bp Z) t→PxR bx (C8 r.items l) p1 (upd (upd s6 bn Y) bp Z') (upd t bp Z'):=fun {Y Z Z' t} h=>by
   have:=hBP.write (b:=bp) (y':=Z') h (A0 ..)
   rw [C5] at this;exact this
  have hP3:=hP2 ⟨2,1,l.length,fun _=>J7 r2.zero⟩ ⟨44,4,1,fun _=>J7 r44.zero⟩
  have hP4:=hwp (Z':=⟨44,4,1,H2 (fun _=>J7 r44.zero) 0 (.agg [.own 1 bn 0 l.length,eI 0,eI 0,.emp])⟩) hP3
  obtain ⟨dv1,gv1,fx1,hx1,hfx1,_,_⟩:=hP4.at
  refine F7 hx1 rfl (by omega) hfx1 ?_;conv=>whnf
  have hline:∀ k,k<p1.us.length→0≤(gU p1.us k).line∧(gU p1.us k).line.toNat<l.length:=fun k hk=>by
   have:=hus1.line _ (B4 hk)
   rw [hitl] at this;exact this
  refine ⟨[1,3,6,9,10,11,45,46,47],fun m vs t=>∃ (k:Nat) (fn fp:Nat→AV),k≤p1.us.length∧m=p1.us.length - k∧vs=[D9 codes,.fptr (J6 r) 0,.optr 4 b6 0 0,.fptr (.optr 4 bx 0 0) 0,.fptr (.fn (.func 77) [] []) 0,.optr 4 bp 0 0,C6 p1.us,eI p1.us.length,eI k] ∧
   PxR bx (C8 r.items l) p1 (upd (upd s6 bn ⟨2,1,l.length,fn⟩) bp ⟨44,4,1,fp⟩) t∧fp 0=.agg [.own 1 bn 0 l.length,eI (A5 ((D5 p1.us).take k)),eI 0,.emp]∧∀ j,j<l.length→fn j=eI (E9 (p1.us.take k) j),?_,?_⟩
  ·conv=>whnf
   exact ⟨_,0,_,_,Nat.zero_le _,rfl,rfl,hP4,A6 ..,fun j _=>rfl⟩
  ·clear hP4 hP3 hx1 hfx1 hP2
   rintro m vs t ⟨k,fn,fp,hk,rfl,rfl,hP,hfp,hfn⟩
   obtain ⟨htn,htp⟩:=hload hP
   conv=>whnf
   cases hd:decide ((k:Int)<(p1.us.length:Int))
   ·have:=of_decide_eq_false hd
    obtain rfl:k=p1.us.length:=by omega
    rw [List.take_length] at hfn
    have htk:(D5 p1.us).take p1.us.length=D5 p1.us:=by rw [←List.length_map (f:=B5.net),List.take_length]
    rw [htk] at hfp;conv=>whnf
    obtain ⟨dv1,gv1,fx1,hx1,hfx1,_,_⟩:=hP.at
    refine ⟨[11],[],[0,1,2,3,4,5,6,7,8,9,10,11],by kernel_rfl,?_⟩;conv=>whnf
    refine F7 hx1 rfl (by omega) hfx1 ?_;conv=>whnf
    refine F7 htp rfl (by omega) hfp ?_;conv=>whnf
    refine ⟨_,D3 (C3D r.ship p1.us.length (K0 p1) t),?_⟩;conv=>whnf
    refine K8 htp rfl (by omega) hfp (by rfl) ?_;conv=>whnf
    have hP5:=hwp (Z':=⟨44,4,1,H2 fp 0 (.agg [.own 1 bn 0 l.length,eI (K0 p1),eI (Z0 r.ship p1.us.length (K0 p1)),.emp])⟩) hP
    have hfee:0≤Z0 r.ship p1.us.length (K0 p1)∧Z0 r.ship p1.us.length (K0 p1)≤10000000000000:=by
     have:=hck.fee
     unfold Z0;split<;>omega
    generalize hfe:Z0 r.ship p1.us.length (K0 p1)=fee at *
    have hR2:R2 bx bp bn l.length (C8 r.items l) (K0 p1) (p1,fee) (upd s6 bn ⟨2,1,l.length,fn⟩) (upd t bp ⟨44,4,1,H2 fp 0 (.agg [.own 1 bn 0 l.length,eI (K0 p1),eI fee,.emp])⟩):=⟨by rw [B1 hnb.symm];exact hbp6,_,⟨_,rfl,A6 ..⟩,hP5⟩
    refine call (B5B (σ:=PSt×Int) hN bx (C8 r.items l) (R2 bx bp bn l.length (C8 r.items l) (K0 p1)) (fun a=>a.1) (B7Q bx bp bn l.length (C8 r.items l) (K0 p1)) (fun a s t t' h hs=>h.more hs) (fun a s t h=>⟨_,h.2.choose_spec.2⟩) r.promos codes hck.few (Nat.le_trans hc hBig) h20 77 [] U7 (fun pr t=>B2z pr t)
     82 [] [.fptr (.optr 4 bx 0 0) 0,.optr 4 bp 0 0] (Q6 (K0 p1)) C2b (fun a n h=>by have:=h.2.1;omega) (fun a n h=>⟨by have:=h.1;omega,by have:=h.2.1;omega,h.2.2⟩)
     (fun a n pr s t hm hs hI h=>A9m bx bp bn l.length (C8 r.items l) (K0 p1) a pr hI.2.2.1 hI.2.2.2 (by have:=hI.1;omega) (by have:=hI.2.1;omega) s t h)
     (fun a n pr hm hs hI=>B0m (hck.promo pr hm) hs hI) (p1,fee) ⟨by show p1.deals.length+60≤200;omega,by show p1.groups.length+60≤200;omega,hfee⟩ (upd s6 bn ⟨2,1,l.length,fn⟩) _ hR2) (fun v t2 hv=>?_)
    obtain ⟨rfl,o2,ho2,hR3⟩:=hv
    have hp2:T0 (fun a:PSt×Int=>a.1) (Q6 (K0 p1)) U7 r.promos (p1,fee) (L3 r.promos o2)=p2B r l p1 (L3 r.promos o2):=by
     unfold p2B;rw [←hfe,hul1]
    rw [hp2] at hR3
    have hQ2:=hQ o2
    generalize p2B r l p1 (L3 r.promos o2)=a2 at *
    obtain ⟨hbp7,y,⟨f7,rfl,hf7⟩,hP7⟩:=hR3
    have hBP7:=A3g bx (C8 r.items l) a2.1
    have h7p:t2 bp=some ⟨44,4,1,f7⟩:=hBP7.sup hP7 bp _ (A0 ..)
    have h7n:t2 bn=some ⟨2,1,l.length,fn⟩:=hBP7.sup hP7 bn _ (by rw [B1 hnb,A0])
    have h76:G3 s6 t2:=fun c x hc=>hBP7.sup hP7 c x (by
     have e1:c≠bp:=fun e=>by subst e;rw [hbp6] at hc;cases hc
     have e2:c≠bn:=fun e=>by subst e;rw [hbn6] at hc;cases hc
     rw [B1 e1,B1 e2];exact hc)
    have h6b:=h76 b6 _ h6
    have hb6p:b6≠bp:=fun e=>by subst e;rw [h6] at hbp6;cases hbp6
    have hb6n:b6≠bn:=fun e=>by subst e;rw [h6] at hbn6;cases hbn6
    have hstn:st bn=none:=hst6.none hbn6
    have hstp:st bp=none:=hst6.none hbp6
    obtain ⟨dv,gv,fx,hx2,hfx2,hdl⟩:=hP7.deals'
    have hS2:G3 st t2:=hst6.trans h76
    conv=>whnf
    refine F7 hx2 rfl (by omega) hfx2 ?_
    rcases hdl with ⟨hd0,rfl⟩ | ⟨bd,gd,rfl,hbd,hbt,hgd⟩
    ·conv=>whnf
     refine K8 h7p rfl (by omega) hf7 (by rfl) ?_;conv=>whnf
     refine F7 (A0 ..) rfl (by omega) (A6 ..) ?_;conv=>whnf
     refine K8 (by rw [B1 hb6p];exact h6b) rfl (by omega) rfl (by rfl) ?_;conv=>whnf
     refine F7 (A0 ..) rfl (by omega) (A6 ..) ?_;conv=>whnf
     refine .inr ⟨hk0,o1,o2,bn,fn,.emp,ho1,ho2,?_,hstn,?_,?_,((hS2.over hstp).over hb6),.inl ⟨?_,rfl⟩⟩
     ·rw [hQ2];rfl
     ·rw [B1 hb6n.symm,B1 hnb];exact h7n
     ·intro k hk
      rw [hQ2,hfn k hk]
      show eI _=eI (gI (R5 l.length p1.us) k)
      unfold R5
      rw [I7 _ hk]
     ·rw [hQ2];exact hd0
    ·have hbdp:bd≠bp:=fun e=>by subst e;rw [A0] at hbd;cases hbd
     rw [B1 hbdp] at hbd
     have hbdn:bd≠bn:=fun e=>by subst e;rw [A0] at hbd;cases hbd
     rw [B1 hbdn] at hbd
     have hbd6:bd≠b6:=fun e=>by subst e;rw [h6] at hbd;cases hbd
     conv=>whnf
     refine K8 h7p rfl (by omega) hf7 (by rfl) ?_;conv=>whnf
     refine F7 (A0 ..) rfl (by omega) (A6 ..) ?_;conv=>whnf
     refine K8 (by rw [B1 hb6p];exact h6b) rfl (by omega) rfl (by rfl) ?_;conv=>whnf
     refine F7 (A0 ..) rfl (by omega) (A6 ..) ?_;conv=>whnf
     refine .inr ⟨hk0,o1,o2,bn,fn,.own 2 bd 0 a2.1.deals.length,ho1,ho2,?_,hstn,?_,?_,((hS2.over hstp).over hb6),.inr ⟨bd,gd,?_,hst6.none hbd,hbdn,?_,?_⟩⟩
     ·rw [hQ2];rfl
     ·rw [B1 hb6n.symm,B1 hnb];exact h7n
     ·intro k hk
      rw [hQ2,hfn k hk]
      show eI _=eI (gI (R5 l.length p1.us) k)
      unfold R5
      rw [I7 _ hk]
     ·rw [hQ2]
     ·rw [B1 hbd6,B1 hbdp,hQ2];exact hbt
     ·rw [hQ2];exact hgd
   ·have hk':k<p1.us.length:=by have:=of_decide_eq_true hd;omega
    have hlk:=hline k hk'
    have hn0:0≤(gU p1.us k).net:=hu1.at0 k
    have hn1:(gU p1.us k).net≤10000000000000:=hu1.le (B4 hk')
    have e1:=N4 (l:=D5 p1.us) (i:=k) (by rw [List.length_map];exact hk')
    have e4:gI (D5 p1.us) k=(gU p1.us k).net:=E1 B5.net p1.us hk'
    have e2:=L4 hu1.nets0 (k+1)
    have e3:=C9 (l:=(D5 p1.us).take k) (fun x hx=>hu1.nets0 x (List.take_subset _ _ hx))
    have hlb:=Y2 hu1 k (gU p1.us k).line.toNat
    have hlb2:=Y2 hu1 (k+1) (gU p1.us k).line.toNat
    have hln1:=S6 hk' (gU p1.us k).line.toNat
    rw [if_pos rfl] at hln1
    have hfl:fn (0+(gU p1.us k).line.toNat)=eI (E9 (p1.us.take k) (gU p1.us k).line.toNat):=by rw [Nat.zero_add];exact hfn _ hlk.2
    have w1:IntKind.i64.wrap (E9 (p1.us.take k) (gU p1.us k).line.toNat+(gU p1.us k).net)=E9 (p1.us.take (k+1)) (gU p1.us k).line.toNat:=by rw [hln1];exact A7 (by omega) (by omega)
    have w2:IntKind.i64.wrap (A5 ((D5 p1.us).take k)+(gU p1.us k).net)=A5 ((D5 p1.us).take (k+1)):=by rw [e1,e4];exact A7 (by omega) (by omega)
    conv=>whnf
    refine ⟨rfl,⟨by omega,by omega⟩,?_⟩;conv=>whnf
    refine ⟨[10],[],[0,1,2,3,4,5,6,7,8,9,10],by kernel_rfl,?_⟩;conv=>whnf
    refine F7 htp rfl (by omega) hfp ?_;conv=>whnf
    refine ⟨rfl,⟨by show 0≤(gU p1.us k).line;exact hlk.1,by show (gU p1.us k).line<(l.length:Int);have:=hlk.2;have:=hlk.1;omega⟩,?_⟩;conv=>whnf
    refine F7 htn rfl (by show 0+(gU p1.us k).line.toNat<_;have:=hlk.2;omega) hfl ?_;conv=>whnf
    refine ⟨rfl,⟨by show 0≤(gU p1.us k).line;exact hlk.1,by show (gU p1.us k).line<(l.length:Int);have:=hlk.2;have:=hlk.1;omega⟩,?_⟩;conv=>whnf
    refine K8 htn rfl (by show 0+(gU p1.us k).line.toNat<_;have:=hlk.2;omega) hfl (by rfl) ?_
    have hP5:=hwn (Y':=⟨2,1,l.length,H2 fn (0+(gU p1.us k).line.toNat) (eI (E9 (p1.us.take (k+1)) (gU p1.us k).line.toNat))⟩) hP
    rw [←w1] at hP5
    obtain ⟨_,htp2⟩:=hload hP5
    conv=>whnf
    refine F7 htp2 rfl (by omega) hfp ?_;conv=>whnf
    refine K8 htp2 rfl (by omega) hfp (by rfl) ?_;conv=>whnf
    refine ⟨rfl,?_⟩;conv=>whnf
    refine ⟨p1.us.length - (k+1),by omega,k+1,_,_,by omega,rfl,by rw [C2 (by omega)],hwp hP5,?_,fun j hj=>?_⟩
    ·rw [A6,←w2];rfl
    ·show H2 fn (0+(gU p1.us k).line.toNat) _ j=_
     rw [Nat.zero_add]
     rw [S6 hk' j]
     by_cases hj2:j=(gU p1.us k).line.toNat
     ·subst hj2
      rw [if_pos rfl,A6,w1,hln1]
     ·rw [G2 hj2,if_neg (fun e=>hj2 e.symm)];exact hfn j hj
 ·have hk0:D0 r codes l≠0:=by simpa using h1
  conv=>whnf
  refine K8 (A0 ..) rfl (by omega) rfl (by rfl) ?_;conv=>whnf
  refine F7 (A0 ..) rfl (by omega) (A6 ..) ?_;conv=>whnf
  exact .inl ⟨hk0,rfl,(h6s _).over hb6⟩
theorem C2R (s:Q8) (x:Ab.Item) (h1:Sm s.skus.length) (h2:Sm s.cats.length) (st:St):S P 111 [A2p s,F4 x] st fun v st'=>v=.bool (A7F s x)∧st'=st:=by
 have e:A7F s x=(((s.skus.length:Int)==0&&(s.cats.length:Int)==0)||(s.skus.any fun y=>y.toList==x.sku.toList)||(s.cats.any fun y=>y.toList==x.cat.toList)):=by
  unfold A7F inB
  rw [A2g,A2g]
  congr 1
  ·congr 1
   ·rw [←Bool.coe_iff_coe];simp only [Bool.and_eq_true,beq_iff_eq];omega
   ·congr 1;funext y;exact Bool.beq_comm
  ·congr 1;funext y;exact Bool.beq_comm
 rw [e]
 have n1:=B4C s.skus x.sku h1 st
 have n2:=B4C s.cats x.cat h2 st
 generalize (s.skus.any fun y=>y.toList==x.sku.toList)=b1 at *
 generalize (s.cats.any fun y=>y.toList==x.cat.toList)=b2 at *
 refine A8 [2,3] B9 mixed Tryz.func111 (by rfl) rfl rfl rfl ?_
 clear e
 repeat' ((conv=>whnf);first | refine B0 n1 ?_ | refine B0 n2 ?_ | (refine C0 (fun h=>?_) (fun h=>?_)<;>rw [h]))
 all_goals (conv=>whnf)
 all_goals (refine ⟨?_,rfl⟩;show AV.bool _=AV.bool _;simp only [*,Bool.true_and,Bool.false_and,Bool.or_true,Bool.or_false,Bool.true_or,Bool.false_or])
theorem B4V {l:List G1} (h:∀ x∈l,lineC x=true) {i:Nat} (hi:i≤l.length):I5 (l.take i)≤I5 l∧H9 (l.take i)≤H9 l:=by
 have:∀ j,i+j≤l.length→I5 (l.take i)≤I5 (l.take (i+j))∧H9 (l.take i)≤H9 (l.take (i+j)):=by
  intro j
  induction j with
  | zero=>intro _;exact ⟨Int.le_refl _,Int.le_refl _⟩
  | succ j ih =>
   intro hj
   obtain ⟨h1,h2⟩:=ih (by omega)
   have hm:=B4 (l:=l) (i:=i+j) (by omega)
   have e1:I5 (l.take (i+j+1))=I5 (l.take (i+j))+(l.getD (i+j) default).qty:=O3 (by omega) _ _
   have e2:H9 (l.take (i+j+1))=H9 (l.take (i+j))+(l.getD (i+j) default).qty * (l.getD (i+j) default).price:=O3 (by omega) _ _
   have h3:=A8A (h _ hm)
   have h4:=(W6 _).1 (h _ hm)
   rw [show i+(j+1)=i+j+1 by omega,e1,e2];omega
 have h2:=this (l.length - i) (by omega)
 rw [show i+(l.length - i)=l.length by omega,List.take_length] at h2;exact h2
theorem B4D (l:List G1) (st:St):S P 161 [B2 3 I9 l] st fun v st'=>v=eI (K5 (fun _=>true) l)∧st'=st:=by
 refine A8 [] B9 mixed Tryz.func161 (by rfl) rfl rfl rfl ?_;conv=>whnf
 refine C0 (fun h=>?_) (fun h=>?_)<;>rw [h]<;>simp only [decide_eq_true_eq,decide_eq_false_iff_not] at h
 ·conv=>whnf
  exact ⟨by rw [show K5 (fun _=>true) l=6 from if_pos (by omega)];rfl,rfl⟩
 have hs:l.length≤1000:=by omega
 have hc:K5 (fun _=>true) l=match l.find? (H6 (fun _=>true)) with
  | some x=>if (fun _=>true) x.sku=true then 2 else 7
  | none=>if (decide (I5 l>100000)||decide (H9 l>10000000000000))=true then 5 else 0:=if_neg (by omega)
 conv=>whnf
 refine lp l.length [0,3] (fun i vs s=>(∀ k,k<i→lineC (l.getD k default)=true)∧vs=[B2 3 I9 l,eI i]∧s=st) ?_ ?_
 ·conv=>whnf
  exact ⟨fun k hk=>absurd hk (by omega),rfl,rfl⟩
 ·rintro i vs st' hi ⟨hok,rfl,rfl⟩
  conv=>whnf
  cases h:decide ((i:Int)<(l.length:Int))
  ·obtain rfl:=E0 h hi
   have hall:∀ x∈l,lineC x=true:=fun x hx=>by obtain ⟨k,hk,rfl⟩:=F0 hx;exact hok k hk
   rw [A6Q fun k hk=>by unfold H6;rw [hok k hk];rfl] at hc
   simp only at hc
   conv=>whnf
   refine lp l.length [0,4,5,6] (fun i vs s=>(0≤I5 (l.take i)∧I5 (l.take i)≤100000)∧(0≤H9 (l.take i)∧H9 (l.take i)≤10000000000000)∧vs=[B2 3 I9 l,eI (I5 (l.take i)),eI (H9 (l.take i)),eI i]∧s=st') ?_ ?_
   ·conv=>whnf
    exact ⟨⟨Int.le_refl _,by rw [List.take_zero];decide⟩,⟨Int.le_refl _,by rw [List.take_zero];decide⟩,rfl,rfl⟩
   ·rintro i vs st' hi ⟨hu,hg,rfl,rfl⟩
    conv=>whnf
    cases h:decide ((i:Int)<(l.length:Int))
    ·obtain rfl:=E0 h hi
     rw [List.take_length] at hu hg
     rw [if_neg (by rw [decide_eq_false (show ¬ I5 l>100000 by omega),decide_eq_false (show ¬ H9 l>10000000000000 by omega)];simp)] at hc;conv=>whnf
     exact ⟨by rw [hc];rfl,rfl⟩
    ·have hi':=G7 h
     have hx:lineC (l.getD (i:Int).toNat default)=true:=hall _ (B4 hi')
     obtain ⟨⟨q0,q1⟩,_⟩:=(W6 _).1 hx
     obtain ⟨m0,m1⟩:=A8A hx
     have eu:I5 (l.take (i+1))=I5 (l.take i)+(l.getD (i:Int).toNat default).qty:=O3 hi' _ _
     have eg:H9 (l.take (i+1))=H9 (l.take i)+(l.getD (i:Int).toNat default).qty * (l.getD (i:Int).toNat default).price:=O3 hi' _ _
     have w1:IntKind.i64.wrap (I5 (l.take i)+(l.getD (i:Int).toNat default).qty)=I5 (l.take (i+1)):=by rw [eu];exact A7 (by omega) (by omega)
     have w2:IntKind.i64.wrap ((l.getD (i:Int).toNat default).qty * (l.getD (i:Int).toNat default).price)=(l.getD (i:Int).toNat default).qty * (l.getD (i:Int).toNat default).price:=A7 (by omega) (by omega)
     have w3:IntKind.i64.wrap (H9 (l.take i)+(l.getD (i:Int).toNat default).qty * (l.getD (i:Int).toNat default).price)=H9 (l.take (i+1)):=by rw [eg];exact A7 (by omega) (by omega)
     have hmono:=B4V hall (show i+1≤l.length from hi')
     have bad:I5 (l.take (i+1))>100000∨H9 (l.take (i+1))>10000000000000→K5 (fun _=>true) l=5:=fun hb=>by
      rw [hc]
      refine if_pos ?_
      rw [Bool.or_eq_true,decide_eq_true_eq,decide_eq_true_eq];omega
     conv=>whnf
     refine ⟨rfl,⟨by omega,by omega⟩,?_⟩;conv=>whnf
     rw [w1]
     refine ⟨[],[],List.range 14,by kernel_rfl,?_⟩;conv=>whnf
     refine ⟨rfl,⟨by omega,by omega⟩,?_⟩;conv=>whnf
     refine ⟨rfl,⟨by omega,by omega⟩,?_⟩;conv=>whnf
     rw [w2,w3]
     refine C0 (fun h1=>?_) (fun h1=>?_)<;>rw [h1]
     ·conv=>whnf
      exact ⟨by rw [bad (.inl (of_decide_eq_true h1))];rfl,rfl⟩
     ·conv=>whnf
      refine C0 (fun h2=>?_) (fun h2=>?_)<;>rw [h2]
      ·conv=>whnf
       exact ⟨by rw [bad (.inr (of_decide_eq_true h2))];rfl,rfl⟩
      ·conv=>whnf
       refine ⟨rfl,?_⟩;conv=>whnf
       have:=of_decide_eq_false h1
       have:=of_decide_eq_false h2
       exact nx hi' ⟨⟨by rw [eu];omega,by omega⟩,⟨by rw [eg];omega,by omega⟩,by rw [C2 (by omega)],rfl⟩
  ·have hi':=G7 h
   have n3:=A1m (l.getD (i:Int).toNat default).price 1000000000 st'
   have yes:lineC (l.getD (i:Int).toNat default)=true→∀ k,k<i+1→lineC (l.getD k default)=true:=fun h=>K9 hok h
   have no:lineC (l.getD (i:Int).toNat default)=false→K5 (fun _=>true) l=2:=fun h=>by
    rw [hc,A2H hi' (fun k hk=>by unfold H6;rw [hok k hk];rfl) (by unfold H6;rw [show lineC (l.getD i default)=false from h];rfl)]
    exact if_pos rfl
   have e:lineC (l.getD (i:Int).toNat default)=(!decide ((l.getD (i:Int).toNat default).qty<0)&&!decide ((l.getD (i:Int).toNat default).qty>100000)&&P7 0 1000000000 (l.getD (i:Int).toNat default).price):=by
    unfold lineC;congr 1;unfold P7;congr 1<;>(rw [←decide_not];exact decide_eq_decide.2 (by omega))
   rw [e] at yes no
   generalize P7 0 1000000000 (l.getD (i:Int).toNat default).price=b3 at n3 yes no
   clear e hc
   repeat' ((conv=>whnf);first | refine ⟨rfl,⟨by omega,by omega⟩,?_⟩ | refine B0 n3 ?_ | cases b3 | (refine C0 (fun h=>?_) (fun h=>?_)<;>rw [h]))
   all_goals (conv=>whnf)
   all_goals first
    | (refine ⟨?_,rfl⟩;rw [no (by simp only [*,Bool.not_true,Bool.false_and,Bool.and_false])];rfl)
    | (refine ⟨rfl,?_⟩;conv=>whnf
       exact nx hi' ⟨yes (by simp only [*,Bool.not_false,Bool.and_true]),by rw [C2 (by omega)],rfl⟩)
theorem B3P {kn:D7→Bool} {l:List G1} (h:∀ x∈l,H6 kn x=false):K5 kn l=K5 (fun _=>true) l:=by
 unfold K5
 rw [List.find?_eq_none.2 fun x hx=>by rw [h x hx];simp,List.find?_eq_none.2 fun x hx=>by
  have:=h x hx
  simp only [H6,Bool.not_eq_false',Bool.and_eq_true] at this
  unfold H6;rw [this.2];simp]
theorem B8V (items:List Ab.Item) (l:List G1) (hi:Sm items.length) (hl:Sm l.length) (st:St):S P 86 [B2 4 F4 items,B2 3 I9 l] st fun v st'=>v=eI (K5 (known items) l)∧st'=st:=by
 refine A8 [] B9 mixed Tryz.func86 (by rfl) rfl rfl rfl ?_;conv=>whnf
 refine lp l.length [0,1,5] (fun i vs s=>(∀ k,k<i→H6 (known items) (l.getD k default)=false)∧vs=[B2 4 F4 items,B2 3 I9 l,eI i]∧s=st) ?_ ?_
 ·conv=>whnf
  exact ⟨fun k hk=>absurd hk (by omega),rfl,rfl⟩
 ·rintro i vs st' hi2 ⟨hok,rfl,rfl⟩
  conv=>whnf
  cases h:decide ((i:Int)<(l.length:Int))
  ·obtain rfl:=E0 h hi2
   conv=>whnf
   refine B0 (B4D l _) ?_;conv=>whnf
   rw [B3P (kn:=known items) fun x hx=>by obtain ⟨k,hk,rfl⟩:=F0 hx;exact hok k hk]
   exact ⟨rfl,rfl⟩
  ·have hi':=G7 h
   conv=>whnf
   refine C0 (fun h1=>?_) (fun h1=>?_)<;>rw [h1]
   ·have hs:l.length≤1000:=by have:=of_decide_eq_true h1;omega
    have hc:K5 (known items) l=match l.find? (H6 (known items)) with
     | some x=>if known items x.sku=true then 2 else 7
     | none=>if (decide (I5 l>100000)||decide (H9 l>10000000000000))=true then 5 else 0:=if_neg (by omega)
    have n1:=B5C items (l.getD (i:Int).toNat default).sku hi st'
    have n3:=A1m (l.getD (i:Int).toNat default).price 1000000000 st'
    have yes:H6 (known items) (l.getD (i:Int).toNat default)=false→∀ k,k<i+1→H6 (known items) (l.getD k default)=false:=fun h=>K9 hok h
    have no:H6 (known items) (l.getD (i:Int).toNat default)=true→K5 (known items) l=if known items (l.getD i default).sku=true then 2 else 7:=fun h=>by
     rw [hc,A2H hi' hok h]
    have e:H6 (known items) (l.getD (i:Int).toNat default)=!(!decide (A0B items (l.getD (i:Int).toNat default).sku<0)&&(!decide ((l.getD (i:Int).toNat default).qty<0)&&!decide ((l.getD (i:Int).toNat default).qty>100000)&&P7 0 1000000000 (l.getD (i:Int).toNat default).price)):=by
     unfold H6 lineC known;congr 1;congr 1
     ·rw [←decide_not];exact decide_eq_decide.2 (by omega)
     ·congr 1;unfold P7;congr 1<;>(rw [←decide_not];exact decide_eq_decide.2 (by omega))
    have e2:known items (l.getD i default).sku=!decide (A0B items (l.getD (i:Int).toNat default).sku<0):=by
     unfold known;rw [←decide_not];exact decide_eq_decide.2 (by rw [Int.toNat_natCast];omega)
    rw [e] at yes no
    rw [e2] at no
    generalize A0B items (l.getD (i:Int).toNat default).sku=F at *
    generalize P7 0 1000000000 (l.getD (i:Int).toNat default).price=b3 at n3 yes no
    clear e e2 hc
    repeat' ((conv=>whnf);first | refine ⟨rfl,⟨by omega,by omega⟩,?_⟩ | refine B0 n1 ?_ | refine B0 n3 ?_ | cases b3 | (refine C0 (fun h=>?_) (fun h=>?_)<;>rw [h]))
    all_goals (conv=>whnf)
    all_goals first
     | (refine ⟨?_,rfl⟩;rw [no (by simp only [*,Bool.not_true,Bool.false_and,Bool.and_false,Bool.not_false]),if_neg (by simp only [*];simp)];rfl)
     | (refine ⟨?_,rfl⟩;rw [no (by simp only [*,Bool.not_true,Bool.false_and,Bool.and_false,Bool.not_false]),if_pos (by simp only [*,Bool.not_false])];rfl)
     | (refine ⟨rfl,?_⟩;conv=>whnf
        exact nx hi' ⟨yes (by simp only [*,Bool.not_false,Bool.and_true,Bool.not_true]),by rw [C2 (by omega)],rfl⟩)
   ·have:=of_decide_eq_false h1
    conv=>whnf
    refine B0 (B4D l _) ?_;conv=>whnf
    exact ⟨by rw [show K5 (known items) l=6 from if_pos (by omega),show K5 (fun _=>true) l=6 from if_pos (by omega)];rfl,rfl⟩
theorem B9a (l:List G1) (hl:l.length≤1000) (hok:∀ x∈l,lineC x=true) (hm:K5 (fun _=>true) l=0) (hN:(Q9 l).length≤100000) (st:St):S P 87 [B2 3 I9 l] st fun v st'=>v=C6 (Q9 l)∧st'=st:=by
 refine A1D (ty:=152) ?_
 refine A8 [] B9 mixed Tryz.func87 (by rfl) rfl rfl rfl ?_;conv=>whnf
 refine B0 (B4D l _) ?_
 rw [hm];conv=>whnf
 refine lp l.length [0,3,4] (fun i vs s=>∃ sv,vs=[B2 3 I9 l,sv,eI i]∧F8 152 3 S9 (F2 l i) st sv s) ?_ ?_
 ·conv=>whnf
  exact ⟨.emp,rfl,F8.start _ _ _ _⟩
 ·rintro i vs st' hi ⟨sv,rfl,hc⟩
  conv=>whnf
  cases h:decide ((i:Int)<(l.length:Int))
  ·obtain rfl:=E0 h hi
   conv=>whnf
   exact hc
  ·have hi':=G7 h
   have hx:lineC (l.getD (i:Int).toNat default)=true:=hok _ (B4 hi')
   obtain ⟨⟨q0,q1⟩,_⟩:=(W6 _).1 hx
   have hq:(l.getD (i:Int).toNat default).qty=((l.getD i default).qty.toNat:Int):=by rw [Int.toNat_natCast] at *;omega
   have hlt:=fun {j} (hj:j<(l.getD i default).qty.toNat)=>A9x hi' hj
   generalize hn:(l.getD i default).qty.toNat=n at *
   conv=>whnf
   refine lp n [0,3,4,5] (fun j vs s=>∃ sv,vs=[B2 3 I9 l,sv,eI i,eI j]∧F8 152 3 S9 (F2 l i++List.replicate j (lnU l i)) st sv s) ?_ ?_
   ·conv=>whnf
    exact ⟨sv,rfl,by rw [List.replicate_zero,List.append_nil];exact hc⟩
   ·clear hc
    rintro j vs s hj ⟨sv,rfl,hc⟩
    conv=>whnf
    refine ⟨rfl,⟨by omega,by omega⟩,?_⟩;conv=>whnf
    rw [hq]
    cases h:decide ((j:Int)<(n:Int))
    ·obtain rfl:=E0 h hj
     conv=>whnf
     refine ⟨rfl,?_⟩;conv=>whnf
     refine nx hi' ⟨sv,by rw [C2 (by omega)],?_⟩
     unfold F2;rw [hn];exact hc
    ·have hj':=G7 h
     have h5:=hlt hj'
     have h6:(F2 l l.length).length≤100000:=hN
     conv=>whnf
     refine ⟨rfl,⟨by omega,by omega⟩,?_⟩;conv=>whnf
     refine F8.app (q:=B6N) (y:=lnU l i) rfl rfl rfl rfl rfl rfl (by show (_+1) * 24≤140737488355328;omega) hc (fun sv' s' hc'=>?_);conv=>whnf
     refine ⟨rfl,?_⟩;conv=>whnf
     exact nx hj' ⟨sv',by rw [C2 (by omega)],by rw [List.replicate_succ',←List.append_assoc];exact hc'⟩
theorem B8Y (items:List Ab.Item) (l:List G1) (hi:Sm items.length) (hl:l.length≤1000) (hk:∀ x∈l,known items x.sku=true) (st:St):S P 88 [B2 4 F4 items,B2 3 I9 l] st fun v st'=>v=B2 4 F4 (C8 items l)∧st'=st:=by
 refine A1D (ty:=64) ?_
 refine A8 [] B9 mixed Tryz.func88 (by rfl) rfl rfl rfl ?_;conv=>whnf
 refine lp l.length [0,1,5,6] (fun i vs s=>∃ sv,vs=[B2 4 F4 items,B2 3 I9 l,sv,eI i]∧F8 64 4 F4 (C8 items (l.take i)) st sv s) ?_ ?_
 ·conv=>whnf
  exact ⟨.emp,rfl,F8.start _ _ _ _⟩
 ·rintro i vs st' hi2 ⟨sv,rfl,hc⟩
  conv=>whnf
  cases h:decide ((i:Int)<(l.length:Int))
  ·obtain rfl:=E0 h hi2
   rw [List.take_length] at hc;conv=>whnf
   exact hc
  ·have hi':=G7 h
   have hmem:l.getD (i:Int).toNat default∈l:=B4 hi'
   have hkn:=hk _ hmem
   simp only [known,decide_eq_true_eq] at hkn
   have hlt:=(B1e (fun x:Ab.Item=>x.sku.toList==(l.getD (i:Int).toNat default).sku.toList) items).2
   have hlen:(C8 items (l.take i)).length=i:=by unfold C8;rw [List.length_map,List.length_take];omega
   conv=>whnf
   refine ⟨rfl,⟨by omega,by omega⟩,?_⟩;conv=>whnf
   refine B0 (B5C items (l.getD (i:Int).toNat default).sku (by omega) _) ?_;conv=>whnf
   refine C0 (fun h1=>?_) (fun h1=>?_)
   ·exact absurd (of_decide_eq_true h1) (by omega)
   ·rw [h1];conv=>whnf
    refine ⟨rfl,⟨by omega,by omega⟩,?_⟩;conv=>whnf
    refine F8.app (q:=r64) (y:=items.getD (A0B items (l.getD (i:Int).toNat default).sku).toNat default) rfl rfl rfl rfl rfl rfl (by show (_+1) * 48≤140737488355328;omega) hc (fun sv' s' hc'=>?_);conv=>whnf
    refine ⟨rfl,?_⟩;conv=>whnf
    refine nx hi' ⟨sv',by rw [C2 (by omega)],?_⟩
    unfold C8 at hc' ⊢
    rw [A1W hi'];exact hc'
end Go.Proofs.YtbajhapmlfbelaaGreat
namespace Go.Proofs.YtbajhapmlfbelaaGreat
open Go Go.Ab
theorem B0x (l:List A9) (o:List Int):(L3 l o).Perm o:=by
 have h:=(A0g l o).map fun e:QE=>gI o e.2.toNat
 rw [List.map_map] at h
 have e:(List.range o.length).map ((fun e:QE=>gI o e.2.toNat) ∘ A9a l o)=o:=by
  refine List.ext_getElem (by simp) fun k h1 h2=>?_
  rw [List.getElem_map,List.getElem_range]
  show o.getD k default=_
  rw [List.getD_eq_getElem?_getD,List.getElem?_eq_getElem h2];rfl
 rw [e] at h;exact h
end Go.Proofs.YtbajhapmlfbelaaGreat
namespace Go.Proofs.YtbajhapmlfbelaaGreat
open Go Go.Ab
attribute [local irreducible] upd del
def C3 (v n:Int):Int:=v % 18446744073709551616 % n
theorem E3 (v:Int) {n:Int} (h:0<n):0≤C3 v n∧C3 v n<n:=⟨Int.emod_nonneg _ (by omega),Int.emod_lt_of_pos _ h⟩
theorem B5R (x:Int):IntKind.u64.wrap x=x % 18446744073709551616:=rfl
theorem B8E (v:Int) {n:Int} (h0:0<n) (h1:n≤9223372036854775807):IntKind.i64.wrap (Int.tmod (IntKind.u64.wrap v) (IntKind.u64.wrap n))=C3 v n:=by
 have h2:=E3 v h0
 have e1:IntKind.u64.wrap n=n:=by rw [B5R];omega
 have e2:Int.tmod (IntKind.u64.wrap v) n=C3 v n:=by rw [Int.tmod_eq_emod_of_nonneg (by rw [B5R];omega)];rfl
 rw [e1,e2,A7 (by omega) (by omega)]
theorem A0r (v n:Int) (h0:0<n) (h1:n≤9223372036854775807) (st:St):S P 60 [eI v,eI n] st fun r st'=>r=eI (C3 v n)∧st'=st:=by
 refine A8 [] B9 mixed Tryz.func60 (by rfl) rfl rfl rfl ?_;conv=>whnf
 rw [decide_eq_false (show ¬ IntKind.u64.wrap n=0 by rw [B5R];omega)];conv=>whnf
 refine ⟨?_,rfl⟩
 rw [←B8E v h0 h1];rfl
theorem L0 (v n:Int) (h0:0<n) (h1:n≤9223372036854775807) (st:St):S P 66 [eI v,eI n] st fun r st'=>r=eI (C3 v n)∧st'=st:=by
 refine A8 [] B9 mixed Tryz.func66 (by rfl) rfl rfl rfl ?_;conv=>whnf
 rw [decide_eq_false (show ¬ IntKind.u64.wrap n=0 by rw [B5R];omega)];conv=>whnf
 refine ⟨?_,rfl⟩
 rw [←B8E v h0 h1];rfl
def S8 (c:Int):D7:=A9V [IntKind.u8.wrap c]
def A0y (n:Int):D7:=S8 (97+C3 n 8)
def A3J (n:Int):D7:=S8 (120+C3 n 3)
def idN (n:Int):D7:=(⟨#[112]⟩:D7)++S8 (48+C3 n 10)
def A3y (n:Int):D7:=(⟨#[99]⟩:D7)++S8 (48+C3 n 3)
theorem B0H (c x:Int):IntKind.u8.wrap (c+IntKind.u8.wrap x)=IntKind.u8.wrap (c+x):=by
 show (c+x % 256) % 256=(c+x) % 256
 omega
theorem B9s (n:Int) (st:St):S P 72 [eI n] st fun r st'=>r=eS (A0y n)∧st'=st:=by
 refine A8 [] B9 mixed Tryz.func72 (by rfl) rfl rfl rfl ?_;conv=>whnf
 refine B0 (A0r n 8 (by decide) (by decide) _) ?_;conv=>whnf
 refine ⟨?_,rfl⟩
 show AV.str (A9V [IntKind.u8.wrap (97+IntKind.u8.wrap (C3 n 8))])=_
 rw [B0H];rfl
theorem A3i (n:Int) (st:St):S P 113 [eI n] st fun r st'=>r=eS (A3J n)∧st'=st:=by
 refine A8 [] B9 mixed Tryz.func113 (by rfl) rfl rfl rfl ?_;conv=>whnf
 refine B0 (A0r n 3 (by decide) (by decide) _) ?_;conv=>whnf
 refine ⟨?_,rfl⟩
 show AV.str (A9V [IntKind.u8.wrap (120+IntKind.u8.wrap (C3 n 3))])=_
 rw [B0H];rfl
theorem C6K (n:Int) (st:St):S P 231 [eI n] st fun r st'=>r=eS (idN n)∧st'=st:=by
 refine A8 [] B9 mixed Tryz.func231 (by rfl) rfl rfl rfl ?_;conv=>whnf
 refine B0 (A0r n 10 (by decide) (by decide) _) ?_;conv=>whnf
 refine ⟨?_,rfl⟩
 show AV.str ((⟨#[112]⟩:D7)++A9V [IntKind.u8.wrap (48+IntKind.u8.wrap (C3 n 10))])=_
 rw [B0H];rfl
theorem B7Y (n:Int) (st:St):S P 71 [eI n] st fun r st'=>r=eS (A3y n)∧st'=st:=by
 refine A8 [] B9 mixed Tryz.func71 (by rfl) rfl rfl rfl ?_;conv=>whnf
 refine B0 (A0r n 3 (by decide) (by decide) _) ?_;conv=>whnf
 refine ⟨?_,rfl⟩
 show AV.str ((⟨#[99]⟩:D7)++A9V [IntKind.u8.wrap (48+IntKind.u8.wrap (C3 n 3))])=_
 rw [B0H];rfl
def B1q (s:D7):Nat→Int
 | 0=>s.size
 | i+1=>IntKind.i64.wrap (IntKind.i64.wrap (7 * B1q s i)+chr s i)
def A2h (s:D7):Int:=B1q s (min s.size 8)
theorem B7W (s:D7) (i:Nat):0≤chr s i∧chr s i<256:=by
 unfold chr;split
 ·rename_i h;have:=(s[i]'h).toNat_lt;omega
 ·omega
theorem A8L (s:D7) (st:St):S P 73 [eS s] st fun r st'=>r=eI (A2h s)∧st'=st:=by
 refine A8 [] B9 mixed Tryz.func73 (by rfl) rfl rfl rfl ?_;conv=>whnf
 refine lp (min s.size 8) [0,3,4] (fun i vs t=>vs=[eS s,eI (B1q s i),eI i]∧t=st) ?_ ?_
 ·conv=>whnf
  exact ⟨rfl,rfl⟩
 ·rintro i vs t hi ⟨rfl,rfl⟩
  conv=>whnf
  refine C0 (fun h1=>?_) (fun h1=>?_)<;>rw [h1]<;>simp only [decide_eq_true_eq,decide_eq_false_iff_not] at h1
  ·conv=>whnf
   refine C0 (fun h2=>?_) (fun h2=>?_)<;>rw [h2]<;>simp only [decide_eq_true_eq,decide_eq_false_iff_not] at h2
   ·have hi':i<min s.size 8:=by omega
    conv=>whnf
    refine C0L (i:=i) rfl (by omega) ?_;conv=>whnf
    refine ⟨rfl,?_⟩;conv=>whnf
    refine nx hi' ⟨?_,rfl⟩
    rw [C2 (by omega)]
    have hc:IntKind.i64.wrap (chr s i)=chr s i:=A7 (by have:=B7W s i;omega) (by have:=B7W s i;omega)
    show [eS s,eI (IntKind.i64.wrap (IntKind.i64.wrap (7 * B1q s i)+IntKind.i64.wrap (chr s i))),eI ((i+1:Nat):Int)]=_
    rw [hc];rfl
   ·obtain rfl:i=min s.size 8:=by omega
    conv=>whnf
    exact ⟨rfl,rfl⟩
  ·obtain rfl:i=min s.size 8:=by omega
   conv=>whnf
   exact ⟨rfl,rfl⟩
def B6n (r:I6):Bool:=decide ((r.items.length:Int)<60)&&decide ((r.promos.length:Int)<30)&&decide ((r.tax.zones.length:Int)<30)&&decide ((r.policy.order.length:Int)<30)&&decide ((r.policy.credit.length:Int)<30)
theorem C3E (r:I6) (st:St):S P 21 [J6 r] st fun v st'=>v=.bool (B6n r)∧st'=st:=by
 refine A8 [1] B9 mixed Tryz.func21 (by rfl) rfl rfl rfl ?_
 unfold B6n
 repeat' ((conv=>whnf);first | (refine C0 (fun h=>?_) (fun h=>?_)<;>rw [h]))
 all_goals (conv=>whnf)
 all_goals exact ⟨by simp only [Bool.true_and,Bool.false_and];rfl,rfl⟩
def A4p (l:List D7) (most:Nat) (kinds:Int) (name:Int→D7) (out:List D7) (k:Nat):List D7 :=
 if (decide (out.length<most)&&(l.take 4).any fun s=>C3 (A2h s) kinds==k)=true then out++[name k] else out
def O9 (l:List D7) (most:Nat) (kinds:Int) (name:Int→D7) (k:Nat):List D7:=(List.range k).foldl (A4p l most kinds name) []
theorem A4q (l:List D7) (most:Nat) (kinds:Int) (name:Int→D7) (k:Nat):O9 l most kinds name (k+1)=A4p l most kinds name (O9 l most kinds name k) k:=by
 unfold O9;rw [List.range_succ,List.foldl_append];rfl
theorem B4L (l:List D7) (most:Nat) (kinds:Int) (name:Int→D7) (k:Nat):(O9 l most kinds name k).length≤k:=by
 induction k with
 | zero=>exact Nat.le_refl _
 | succ k ih =>
  rw [A4q];unfold A4p
  split
  ·rw [List.length_append];show _+1≤_;omega
  ·omega
theorem B4M (l:List D7) (most kinds:Nat) (name:Int→D7) (g:FuncId) (hk:0<kinds) (hk2:kinds≤100) (hg:∀ (n:Int) (st:St),S P g [eI n] st fun v st'=>v=eS (name n)∧st'=st) (st:St) :
  S P 70 [D9 l,eI most,eI kinds,.fn (.func g) [] []] st fun v st'=>v=D9 (O9 l most kinds name kinds)∧st'=st:=by
 refine A1D (ty:=9) ?_
 refine A8 [] B9 mixed Tryz.func70 (by rfl) rfl rfl rfl ?_;conv=>whnf
 refine lp kinds [0,1,2,3,9,10] (fun k vs s=>∃ sv,vs=[D9 l,eI most,eI kinds,.fn (.func g) [] [],sv,eI k]∧F8 9 1 eS (O9 l most kinds name k) st sv s) ?_ ?_
 ·conv=>whnf
  exact ⟨.emp,rfl,F8.start _ _ _ _⟩
 ·rintro k vs s hk1 ⟨sv,rfl,hc⟩
  conv=>whnf
  cases hd:decide ((k:Int)<(kinds:Int))
  ·obtain rfl:=E0 hd hk1
   conv=>whnf
   exact hc
  ·have hk':=G7 hd
   have hlen:=B4L l most kinds name k
   have hS:=A4q l most kinds name k
   unfold A4p at hS;conv=>whnf
   refine lp (min l.length 4) [0,1,2,3,9,10,11] (fun i vs t=>(∀ j,j<i→(C3 (A2h (l.getD j default)) kinds==k)=false)∧vs=[D9 l,eI most,eI kinds,.fn (.func g) [] [],sv,eI k,eI i]∧t=s) ?_ ?_
   ·conv=>whnf
    exact ⟨fun j hj=>absurd hj (by omega),rfl,rfl⟩
   ·rintro i vs t hi ⟨hok,rfl,rfl⟩
    have hstop:i=min l.length 4→((l.take 4).any fun s=>C3 (A2h s) kinds==k)=false:=fun e=>by
     refine List.any_eq_false.2 fun x hx=>?_
     obtain ⟨j,hj,rfl⟩:=F0 hx
     rw [List.length_take] at hj
     rw [show (l.take 4).getD j default=l.getD j default by rw [List.getD_eq_getElem?_getD,List.getD_eq_getElem?_getD,List.getElem?_take_of_lt (by omega)],hok j (by omega)]
     simp
    have hsv:(sv=.emp∧(O9 l most kinds name k).length=0)∨∃ b,sv=.own 1 b 0 (O9 l most kinds name k).length:=by
     rcases hc with ⟨h0,h1,_⟩ | ⟨_,b,_,_,h1,_⟩
     ·exact .inl ⟨h1,h0⟩
     ·exact .inr ⟨b,h1⟩
    have hrun:∀ {t':St} {sv':AV},F8 9 1 eS (O9 l most kinds name (k+1)) st sv' t'→∃ sv,[D9 l,eI most,eI kinds,.fn (.func g) [] [],sv',eI (IntKind.i64.wrap ((k:Int)+1))]=[D9 l,eI most,eI kinds,.fn (.func g) [] [],sv,eI ((k+1:Nat):Int)]∧F8 9 1 eS (O9 l most kinds name (k+1)) st sv t':=fun {t' sv'} h=>⟨sv',by rw [C2 (by omega)],h⟩
    conv=>whnf
    refine C0 (fun h1=>?_) (fun h1=>?_)<;>rw [h1]<;>simp only [decide_eq_true_eq,decide_eq_false_iff_not] at h1
    ·conv=>whnf
     refine C0 (fun h2=>?_) (fun h2=>?_)<;>rw [h2]<;>simp only [decide_eq_true_eq,decide_eq_false_iff_not] at h2
     ·have hi':i<min l.length 4:=by omega
      rcases hsv with ⟨rfl,hl0⟩ | ⟨b,rfl⟩
      all_goals
       conv=>whnf
       refine C0 (fun h3=>?_) (fun h3=>?_)<;>rw [h3]<;>simp only [decide_eq_true_eq,decide_eq_false_iff_not] at h3
       ·conv=>whnf
        refine ⟨rfl,⟨by omega,by omega⟩,?_⟩;conv=>whnf
        refine B0 (A8L _ _) ?_;conv=>whnf
        refine B0 (A0r _ (kinds:Int) (by omega) (by omega) _) ?_;conv=>whnf
        cases h4:(C3 (A2h (l.getD (i:Int).toNat default)) (kinds:Int)==(k:Int))
        ·conv=>whnf
         refine ⟨rfl,?_⟩;conv=>whnf
         exact nx hi' ⟨K9 hok h4,by rw [C2 (by omega)],rfl⟩
        ·have hm:(decide ((O9 l most kinds name k).length<most)&&(l.take 4).any fun s=>C3 (A2h s) kinds==k)=true:=by
          rw [Bool.and_eq_true,decide_eq_true_eq,List.any_eq_true]
          refine ⟨by omega,l.getD (i:Int).toNat default,?_,h4⟩
          rw [show l.getD (i:Int).toNat default=(l.take 4).getD i default by rw [List.getD_eq_getElem?_getD,List.getD_eq_getElem?_getD,List.getElem?_take_of_lt (by omega)];rfl]
          exact B4 (by rw [List.length_take];omega)
         rw [if_pos hm] at hS;conv=>whnf
         refine B0 (hg _ _) ?_;conv=>whnf
         refine F8.app (q:=r9) rfl rfl rfl rfl rfl (by rfl) (by show ((O9 l most kinds name k).length+1) * 16≤140737488355328;omega) hc (fun sv' t' hc'=>?_);conv=>whnf
         refine ⟨rfl,?_⟩;conv=>whnf
         exact nx hk' (hrun (by rw [hS];exact hc'))
       ·rw [if_neg (by rw [decide_eq_false (by omega)];simp)] at hS;conv=>whnf
        refine ⟨rfl,?_⟩;conv=>whnf
        exact nx hk' (hrun (by rw [hS];exact hc))
     ·rw [if_neg (by rw [hstop (by omega)];simp)] at hS;conv=>whnf
      refine ⟨rfl,?_⟩;conv=>whnf
      exact nx hk' (hrun (by rw [hS];exact hc))
    ·rw [if_neg (by rw [hstop (by omega)];simp)] at hS;conv=>whnf
     refine ⟨rfl,?_⟩;conv=>whnf
     exact nx hk' (hrun (by rw [hS];exact hc))
def N3 (s:Q8):Q8:=⟨O9 s.skus 3 8 A0y 8,O9 s.cats 2 3 A3J 3⟩
theorem B3a (s:Q8) (st:St):S P 232 [A2p s] st fun v st'=>v=A2p (N3 s)∧st'=st:=by
 have h1:=fun st=>B4M s.skus 3 8 A0y 72 (by decide) (by decide) B9s st
 have h2:=fun st=>B4M s.cats 2 3 A3J 113 (by decide) (by decide) A3i st
 unfold N3
 generalize O9 s.skus 3 8 A0y 8=a at h1 ⊢
 generalize O9 s.cats 2 3 A3J 3=b at h2 ⊢
 refine A5c ?_
 refine A8 [1] B9 mixed Tryz.func232 (by rfl) rfl rfl rfl ?_;conv=>whnf
 intro b2 hb;conv=>whnf
 refine ⟨[7],[],List.range 8,by kernel_rfl,?_⟩;conv=>whnf
 refine ⟨_,D3 (h1 _),?_⟩;conv=>whnf
 refine ⟨_,D3 (h2 _),?_⟩;conv=>whnf
 refine K8 (A0 ..) rfl (by omega) rfl (by rfl) ?_;conv=>whnf
 refine F7 (A0 ..) rfl (by omega) (A6 ..) ?_;conv=>whnf
 exact ⟨rfl,((G3.refl st).upd hb).over hb⟩
def W9 (l:List D7):List D7:=O9 l 3 3 A3y 3
theorem B2O (l:List D7) (st:St):S P 16 [D9 l] st fun v st'=>v=D9 (W9 l)∧st'=st:=by
 refine A8 [] B9 mixed Tryz.func16 (by rfl) rfl rfl rfl ?_;conv=>whnf
 refine B0 (B4M l 3 3 A3y 71 (by decide) (by decide) B7Y _) ?_;conv=>whnf
 exact ⟨rfl,rfl⟩
def A0u (x:G1):G1:=⟨A0y (A2h x.sku),C3 x.qty 10,C3 x.price 4000⟩
def R7 (l:List G1):List G1:=(l.take 8).map A0u
theorem B1v (l:List G1) (st:St):S P 17 [B2 3 I9 l] st fun v st'=>F8 51 3 I9 (R7 l) st v st':=by
 refine A8 [] B9 mixed Tryz.func17 (by rfl) rfl rfl rfl ?_;conv=>whnf
 refine lp (min l.length 8) [0,3,4] (fun i vs s=>∃ sv,vs=[B2 3 I9 l,sv,eI i]∧F8 51 3 I9 ((l.take i).map A0u) st sv s) ?_ ?_
 ·conv=>whnf
  exact ⟨.emp,rfl,F8.start _ _ _ _⟩
 ·rintro i vs s hi ⟨sv,rfl,hc⟩
  have hfin:i=min l.length 8→F8 51 3 I9 (R7 l) st sv s:=fun e=>by
   have:R7 l=(l.take i).map A0u:=by
    unfold R7
    rcases Nat.le_total l.length 8 with h | h
    ·rw [show i=l.length by omega,List.take_length,List.take_of_length_le h]
    ·rw [show i=8 by omega]
   rw [this];exact hc
  conv=>whnf
  refine C0 (fun h1=>?_) (fun h1=>?_)<;>rw [h1]<;>simp only [decide_eq_true_eq,decide_eq_false_iff_not] at h1
  ·conv=>whnf
   refine C0 (fun h2=>?_) (fun h2=>?_)<;>rw [h2]<;>simp only [decide_eq_true_eq,decide_eq_false_iff_not] at h2
   ·have hi':i<min l.length 8:=by omega
    conv=>whnf
    refine ⟨[21,22],[],List.range 24,by kernel_rfl,?_⟩;conv=>whnf
    refine ⟨rfl,⟨by omega,by omega⟩,?_⟩;conv=>whnf
    refine ⟨_,D3 (A8L _ _),?_⟩;conv=>whnf
    refine ⟨_,D3 (B9s _ _),?_⟩;conv=>whnf
    refine ⟨rfl,⟨by omega,by omega⟩,?_⟩;conv=>whnf
    refine ⟨_,D3 (A0r _ 10 (by decide) (by decide) _),?_⟩;conv=>whnf
    refine ⟨rfl,⟨by omega,by omega⟩,?_⟩;conv=>whnf
    refine ⟨_,D3 (L0 _ 4000 (by decide) (by decide) _),?_⟩;conv=>whnf
    refine F8.app (y:=A0u (l.getD (i:Int).toNat default)) (q:=r51) rfl rfl rfl rfl rfl (by rfl) (by show (((l.take i).map A0u).length+1) * 32≤140737488355328;rw [List.length_map,List.length_take];omega) hc (fun sv' t' hc'=>?_);conv=>whnf
    refine ⟨rfl,?_⟩;conv=>whnf
    refine nx hi' ⟨sv',by rw [C2 (by omega)],?_⟩
    rw [L9 (by omega),List.map_append];exact hc'
   ·conv=>whnf
    exact hfin (by omega)
  ·conv=>whnf
   exact hfin (by omega)
theorem B2S (l:List G1) (st:St):S P 17 [B2 3 I9 l] st fun v st'=>v=B2 3 I9 (R7 l)∧st'=st:=A1D (B1v l st)
def N0 (l:List Ab.Item) (k:Nat):Ab.Item :=
 if k<l.length then ⟨A0y k,A3J (A2h (l.getD k default).cat),C3 (l.getD k default).price 4000,(l.getD k default).final&&k==7⟩ else ⟨A0y k,A3J k,100+37 * k,false⟩
def L6 (l:List Ab.Item):List Ab.Item:=(List.range 8).map (N0 l)
theorem A4d {α : Type} (f:Nat→α) (k:Nat):(List.range (k+1)).map f=(List.range k).map f++[f k]:=by rw [List.range_succ,List.map_append];rfl
theorem B2Q (l:List Ab.Item) (st:St):S P 38 [B2 4 F4 l] st fun v st'=>v=B2 4 F4 (L6 l)∧st'=st:=by
 refine S.post (post:=fun v st'=>∃ base,G3 st base∧F8 64 4 F4 (L6 l) base v st') ?_ (fun v st' ⟨base,hs,hc⟩=>⟨_,st,⟨rfl,rfl⟩,hc.shift.trans (hs.shift _)⟩)
 refine A8 [] B9 mixed Tryz.func38 (by rfl) rfl rfl rfl ?_;conv=>whnf
 refine lp 8 [0,3,4] (fun k vs s=>∃ sv base,vs=[B2 4 F4 l,sv,eI k]∧G3 st base∧F8 64 4 F4 ((List.range k).map (N0 l)) base sv s) ?_ ?_
 ·conv=>whnf
  exact ⟨.emp,st,rfl,G3.refl _,F8.start _ _ _ _⟩
 ·rintro k vs s hk ⟨sv,base,rfl,hsup,hc⟩
  conv=>whnf
  refine C0 (fun h1=>?_) (fun h1=>?_)<;>rw [h1]<;>simp only [decide_eq_true_eq,decide_eq_false_iff_not] at h1
  ·have hk':k<8:=by omega
   have hnext:=A4d (N0 l) k
   have hlen:((List.range k).map (N0 l)).length=k:=by rw [List.length_map,List.length_range]
   have w1:IntKind.i64.wrap (100+IntKind.i64.wrap (37 * (k:Int)))=100+37 * (k:Int):=by
    rw [A7 (x:=37 * (k:Int)) (by omega) (by omega),A7 (by omega) (by omega)]
   conv=>whnf
   refine B0 (B9s _ _) ?_;conv=>whnf
   refine B0 (A3i _ _) ?_;conv=>whnf
   intro b hb;conv=>whnf
   refine K8 (A0 ..) rfl (by omega) rfl (by rfl) ?_
   rw [C5]
   have hbb:base b=none:=N1.off hc hb
   have hc1:=fun y=>N1.under (y:=y) hc hb
   have hend:∀ {t:St} {Y:Q3} {x:AV} {g:Nat→AV} {K:KK},t=upd s b Y→V9 4 t x=some (1,g)→g 0=F4 (N0 l k)→(∀ sv' t',F8 64 4 F4 ((List.range (k+1)).map (N0 l)) (upd base b Y) sv' t'→K sv' t')→A4w T 22 sv x t K:=fun {t Y x g K} e hs hg hk=>by
    subst e
    refine F8.app (q:=r64) rfl rfl rfl rfl hs hg (by rw [hlen];show (k+1) * 48≤140737488355328;omega) (hc1 Y) (fun sv' t' hc'=>hk sv' t' ?_)
    rw [hnext];exact hc'
   conv=>whnf
   refine C0 (fun h2=>?_) (fun h2=>?_)<;>rw [h2]<;>simp only [decide_eq_true_eq,decide_eq_false_iff_not] at h2
   ·have hi:k<l.length:=by omega
    have hp:N0 l k=⟨A0y k,A3J (A2h (l.getD (k:Int).toNat default).cat),C3 (l.getD (k:Int).toNat default).price 4000,(l.getD (k:Int).toNat default).final&&k==7⟩:=by unfold N0;rw [if_pos hi];rfl
    conv=>whnf
    refine ⟨[23,25,27],[],List.range 28,by kernel_rfl,?_⟩;conv=>whnf
    refine ⟨rfl,⟨by omega,by omega⟩,?_⟩;conv=>whnf
    refine ⟨_,D3 (A8L _ _),?_⟩;conv=>whnf
    refine ⟨_,D3 (A3i _ _),?_⟩;conv=>whnf
    refine ⟨rfl,⟨by omega,by omega⟩,?_⟩;conv=>whnf
    refine ⟨_,D3 (L0 _ 4000 (by decide) (by decide) _),?_⟩;conv=>whnf
    refine ⟨rfl,⟨by omega,by omega⟩,?_⟩;conv=>whnf
    refine C0 (fun h3=>?_) (fun h3=>?_)<;>rw [h3] at hp ⊢
    all_goals
     conv=>whnf
     refine K8 (A0 ..) rfl (by omega) (A6 ..) (by rfl) ?_
     rw [C5];conv=>whnf
     refine K8 (A0 ..) rfl (by omega) (A6 ..) (by rfl) ?_
     rw [C5];conv=>whnf
     refine K8 (A0 ..) rfl (by omega) (A6 ..) (by rfl) ?_
     rw [C5];conv=>whnf
     refine F7 (A0 ..) rfl (by omega) (A6 ..) ?_;conv=>whnf
     refine hend rfl rfl (by rw [hp];first | rfl | (have e7:((k:Int)==7)=(k==7):=by rw [Bool.eq_iff_iff,beq_iff_eq,beq_iff_eq];omega
                                                    rw [Bool.true_and,←e7];rfl)) (fun sv' t' hc'=>?_)
     conv=>whnf
     refine ⟨rfl,?_⟩;conv=>whnf
     exact nx hk' ⟨sv',_,by rw [C2 (by omega)],hsup.upd hbb,hc'⟩
   ·have hi:¬ k<l.length:=by omega
    have hp:N0 l k=⟨A0y k,A3J k,100+37 * k,false⟩:=by unfold N0;rw [if_neg hi]
    conv=>whnf
    refine F7 (A0 ..) rfl (by omega) (A6 ..) ?_;conv=>whnf
    refine hend rfl rfl (by rw [hp];show AV.agg _=_;rw [w1];rfl) (fun sv' t' hc'=>?_);conv=>whnf
    refine ⟨rfl,?_⟩;conv=>whnf
    exact nx hk' ⟨sv',_,by rw [C2 (by omega)],hsup.upd hbb,hc'⟩
  ·obtain rfl:k=8:=by omega
   conv=>whnf
   exact ⟨base,hsup,hc⟩
end Go.Proofs.YtbajhapmlfbelaaGreat
namespace Go.Ab
open Go
def So (y y':AV):Prop:=∀ rd sz rd' sz' c,Rep rd sz y c→Rep rd' sz' y' c
inductive SoL:List AV→List AV→Prop
 | nil:SoL [] []
 | cons {a b:AV} {l m:List AV} (h:So a b) (k:SoL l m):SoL (a::l) (b::m)
theorem SoL.len {l m:List AV} (h:SoL l m):l.length=m.length:=by
 induction h with
 | nil=>rfl
 | cons _ _ ih=>simp [ih]
theorem SoL.get {l m:List AV} (h:SoL l m):∀ (j:Nat) (y':AV),m[j]?=some y'→∃ y,l[j]?=some y∧So y y':=by
 induction h with
 | nil=>intro j y' hj;simp at hj
 | cons h k ih =>
  intro j y' hj
  cases j with
  | zero=>simp at hj;subst hj;exact ⟨_,rfl,h⟩
  | succ j=>simp at hj;simpa using ih j y' hj
theorem So.int (k:IntKind) (n:Int):So (.int k n) (.int k n):=fun _ _ _ _ c h=>by cases h;exact .int _ _
theorem So.bool (b:Bool):So (.bool b) (.bool b):=fun _ _ _ _ c h=>by cases h;exact .bool _
theorem So.str (b:ByteArray):So (.str b) (.str b):=fun _ _ _ _ c h=>by cases h;exact .str _
theorem So.junk (y:AV):So y .junk:=fun _ _ _ _ c _=>.junk c
def noA (n:Nat):AV:=.arr 0 n fun _=>.agg []
theorem So.arr (e n:Nat) (f:Nat→AV):So (.arr e n f) (noA n):=fun _ _ _ _ c h=>by
 cases h with
 | arr e n f A c g hc hA hl ho hr hg =>
  exact .arr _ _ _ A c (fun _ _=>undef) hc hA (fun i hi=>rfl) (fun i hi=>rfl) (fun a ha i j hi hj=>absurd hj (by omega)) (fun i j y hi hy=>by simp [cellsOf] at hy)
theorem So.agg {l m:List AV} (h:SoL l m):So (.agg l) (.agg m):=fun _ _ _ _ c hr=>by
 cases hr with
 | agg cs vs hl hg =>
  refine .agg _ _ (by rw [←h.len];exact hl) fun j y c hy hc=>?_
  obtain ⟨y0,h1,h2⟩:=h.get j y hy
  exact h2 _ _ _ _ _ (hg j y0 c h1 hc)
theorem So.tuple {l m:List AV} (h:SoL l m):So (.tuple l) (.tuple m):=fun _ _ _ _ c hr=>by
 cases hr with
 | tuple cs vs hl hg =>
  refine .tuple _ _ (by rw [←h.len];exact hl) fun j y c hy hc=>?_
  obtain ⟨y0,h1,h2⟩:=h.get j y hy
  exact h2 _ _ _ _ _ (hg j y0 c h1 hc)
def Le (y y':AV):Prop:=∀ rd sz c,Rep rd sz y c→Rep rd sz y' c
inductive D6:List AV→List AV→Prop
 | nil:D6 [] []
 | cons {a b:AV} {l m:List AV} (h:Le a b) (k:D6 l m):D6 (a::l) (b::m)
theorem Le.refl (y:AV):Le y y:=fun _ _ _ h=>h
theorem D6.refl:∀ l:List AV,D6 l l
 | []=>.nil
 | a::l=>.cons (Le.refl a) (D6.refl l)
theorem D6.len {l m:List AV} (h:D6 l m):l.length=m.length:=by
 induction h with
 | nil=>rfl
 | cons _ _ ih=>simp [ih]
theorem D6.get {l m:List AV} (h:D6 l m):∀ (j:Nat) (y':AV),m[j]?=some y'→∃ y,l[j]?=some y∧Le y y':=by
 induction h with
 | nil=>intro j y' hj;simp at hj
 | cons h k ih =>
  intro j y' hj
  cases j with
  | zero=>simp at hj;subst hj;exact ⟨_,rfl,h⟩
  | succ j=>simp at hj;simpa using ih j y' hj
theorem Le.emp (e:Nat) (f:Nat→AV):Le .emp (.arr e 0 f):=fun rd sz c h=>B5m e f h
theorem Le.agg {l m:List AV} (h:D6 l m):Le (.agg l) (.agg m):=fun rd sz c hr=>by
 cases hr with
 | agg cs vs hl hg =>
  refine .agg _ _ (by rw [←h.len];exact hl) fun j y c hy hc=>?_
  obtain ⟨y0,h1,h2⟩:=h.get j y hy
  exact h2 _ _ _ (hg j y0 c h1 hc)
theorem Le.arr {e n:Nat} {f g:Nat→AV} (h:∀ i,i<n→D6 (cellsOf (f i)) (cellsOf (g i))∧(cellsOf (g i)).all AV.one=true):Le (.arr e n f) (.arr e n g):=fun rd sz c hr=>by
 cases hr with
 | arr e n f A c g' hc hA hl ho hrd hg =>
  refine .arr _ _ _ A c g' hc hA (fun i hi=>by rw [←(h i hi).1.len];exact hl i hi) (fun i hi=>(h i hi).2) hrd fun i j y hi hy=>?_
  obtain ⟨y0,h1,h2⟩:=(h i hi).1.get j y hy
  exact h2 _ _ _ (hg i j y0 hi h1)
theorem Le.arr1 {e:Nat} {f g:Nat→AV} (h:D6 (cellsOf (f 0)) (cellsOf (g 0))) (h1:(cellsOf (g 0)).all AV.one=true):Le (.arr e 1 f) (.arr e 1 g):=Le.arr fun i hi=>by
 obtain rfl:i=0:=by omega
 exact ⟨h,h1⟩
theorem Le.shift {v v':AV} (h:Le v v') (st:St):B3 [v] st [v'] st:=B3.one fun w c hS hr=>⟨hS,X7.refl _ _,h _ _ _ hr⟩
end Go.Ab
namespace Go.Proofs.YtbajhapmlfbelaaGreat
open Go Go.Ab
attribute [local irreducible] upd del
def C6P:Tax:=⟨false,false,0,[]⟩
def awR:I6:=⟨[⟨⟨#[97]⟩,⟨#[120]⟩,15,false⟩],[⟨⟨#[112]⟩,2,0,⟨#[]⟩,⟨#[]⟩,false,⟨[],[]⟩,0,0,10,0,0,[],[]⟩],C6P,⟨0,0⟩,⟨0,0,1,0,[],[]⟩⟩
def awL:List G1:=[⟨⟨#[97]⟩,2,15⟩]
theorem B7N:D0 awR [] awL=0:=by kernel_rfl
theorem B7O:Q7 awR awL [0] [0]=⟨[10],10,0,[⟨⟨#[112]⟩,20⟩]⟩:=by kernel_rfl
theorem A6M:places awR.promos [] awR.promos.length=[0]:=by kernel_rfl
theorem A7v {l:List A9} {codes:List D7} (h:places l codes l.length=[0]) {o:List Int} (ho:A6G l codes o):L3 l o=[0]:=by
 have:=(B0x l o).trans ho.1
 rw [h] at this
 exact List.perm_singleton.1 this
theorem C2o:U3 awR:=by
 refine ⟨by decide,fun p hp=>?_,by decide,by decide⟩
 rw [List.mem_singleton.1 (show p∈[_] from hp)]
 exact ⟨⟨by decide,by decide⟩,by decide,fun x hx=>by cases hx⟩
theorem B5X (st:St):S P 18 [J6 awR,D9 [],B2 3 I9 awL] st fun v st'=>v=.tuple [U1 ⟨[10],10,0,[⟨⟨#[112]⟩,20⟩]⟩,eI 0]∧st'=st :=
 (price_S A9s awR [] awL C2o (by decide) (by decide) (by rw [A6M];decide) st).mono fun v s hv=>by
  obtain ⟨hv,rfl⟩:=hv
  refine ⟨?_,rfl⟩
  rcases hv with ⟨h,_⟩ | ⟨_,o1,o2,h1,h2,h3⟩
  ·exact absurd B7N h
  ·rw [A7v A6M h1,A7v A6M h2,B7O] at h3
   exact h3
theorem B5c (st:St):S P 14 [] st fun v st'=>v=.bool true∧st'=st:=by
 refine A5c ?_
 refine A8 [1] B9 mixed Tryz.func14 (by rfl) rfl rfl rfl ?_;conv=>whnf
 refine H8 ?_ (B0 (B5X st) ?_)
 ·refine B3.cons (Le.shift (Le.agg ?_) _) (B3.cons (Le.shift (Le.emp _ _) _) (Le.shift ?_ _))
  ·repeat' first | exact D6.nil | refine D6.cons ?_ ?_ | exact Le.refl _ | exact Le.emp _ _ | refine Le.arr1 ?_ rfl
  ·repeat' first | exact D6.nil | refine D6.cons ?_ ?_ | exact Le.refl _ | exact Le.emp _ _ | refine Le.arr1 ?_ rfl
 ·conv=>whnf
  intro b hb;conv=>whnf
  refine K8 (A0 ..) rfl (by omega) rfl (by rfl) ?_
  rw [C5];conv=>whnf
  refine F7 (A0 ..) rfl (by omega) (A6 ..) ?_;conv=>whnf
  refine F7 (A0 ..) rfl (by omega) (A6 ..) ?_;conv=>whnf
  refine F7 (A0 ..) rfl (by omega) (A6 ..) ?_;conv=>whnf
  refine ⟨rfl,⟨by decide,by decide⟩,?_⟩;conv=>whnf
  exact ⟨rfl,(G3.refl st).upd hb⟩
theorem C0A (x:Int) (st:St):S P 171 [eI x,eI x] st fun v st'=>v=.bool true∧st'=st:=by
 refine A8 [] B9 mixed Tryz.func171 (by rfl) rfl rfl rfl ?_;conv=>whnf
 refine ⟨?_,rfl⟩
 show AV.bool (x==x)=_
 rw [beq_self_eq_true]
theorem B8g (x:A0C) (st:St):S P 173 [A3U x,A3U x] st fun v st'=>v=.bool true∧st'=st:=by
 refine A8 [2,3] B9 mixed Tryz.func173 (by rfl) rfl rfl rfl ?_;conv=>whnf
 refine ⟨?_,rfl⟩
 show AV.bool ((x.id.toList==x.id.toList)&&((x.off==x.off)&&true))=AV.bool true
 rw [beq_self_eq_true,beq_self_eq_true];rfl
theorem B4E (l:List Int) (hl:Sm l.length) (st:St):S P 170 [B6 l,B6 l,.fn (.func 171) [] []] st fun v st'=>v=.bool true∧st'=st:=by
 refine A8 [] B9 mixed Tryz.func170 (by rfl) rfl rfl rfl ?_;conv=>whnf
 rw [show ((l.length:Int) != (l.length:Int))=false from bne_self_eq_false _];conv=>whnf
 refine lp l.length [0,1,2,7] (fun i vs s=>vs=[B6 l,B6 l,.fn (.func 171) [] [],eI i]∧s=st) ?_ ?_
 ·conv=>whnf
  exact ⟨rfl,rfl⟩
 ·rintro i vs s hi ⟨rfl,rfl⟩
  conv=>whnf
  cases h:decide ((i:Int)<(l.length:Int))
  ·obtain rfl:=E0 h hi
   conv=>whnf
   exact ⟨rfl,rfl⟩
  ·have hi':=G7 h
   conv=>whnf
   refine ⟨[],[],List.range 11,by kernel_rfl,?_⟩;conv=>whnf
   refine ⟨rfl,⟨by omega,by omega⟩,?_⟩;conv=>whnf
   refine ⟨rfl,⟨by omega,by omega⟩,?_⟩;conv=>whnf
   refine ⟨_,D3 (C0A _ _),?_⟩;conv=>whnf
   refine ⟨rfl,?_⟩;conv=>whnf
   exact nx hi' ⟨by rw [C2 (by omega)],rfl⟩
theorem B3p (l:List A0C) (hl:Sm l.length) (st:St):S P 172 [B2 2 A3U l,B2 2 A3U l,.fn (.func 173) [] []] st fun v st'=>v=.bool true∧st'=st:=by
 refine A8 [] B9 mixed Tryz.func172 (by rfl) rfl rfl rfl ?_;conv=>whnf
 rw [show ((l.length:Int) != (l.length:Int))=false from bne_self_eq_false _];conv=>whnf
 refine lp l.length [0,1,2,7] (fun i vs s=>vs=[B2 2 A3U l,B2 2 A3U l,.fn (.func 173) [] [],eI i]∧s=st) ?_ ?_
 ·conv=>whnf
  exact ⟨rfl,rfl⟩
 ·rintro i vs s hi ⟨rfl,rfl⟩
  conv=>whnf
  cases h:decide ((i:Int)<(l.length:Int))
  ·obtain rfl:=E0 h hi
   conv=>whnf
   exact ⟨rfl,rfl⟩
  ·have hi':=G7 h
   conv=>whnf
   refine ⟨[],[],List.range 11,by kernel_rfl,?_⟩;conv=>whnf
   refine ⟨rfl,⟨by omega,by omega⟩,?_⟩;conv=>whnf
   refine ⟨rfl,⟨by omega,by omega⟩,?_⟩;conv=>whnf
   refine ⟨_,D3 (B8g _ _),?_⟩;conv=>whnf
   refine ⟨rfl,?_⟩;conv=>whnf
   exact nx hi' ⟨by rw [C2 (by omega)],rfl⟩
theorem B2N (l:List Int) (hl:Sm l.length) (st:St):S P 93 [B6 l,B6 l] st fun v st'=>v=.bool true∧st'=st:=by
 refine A8 [] B9 mixed Tryz.func93 (by rfl) rfl rfl rfl ?_;conv=>whnf
 refine B0 (B4E l hl _) ?_;conv=>whnf
 exact ⟨rfl,rfl⟩
theorem B1s (l:List A0C) (hl:Sm l.length) (st:St):S P 94 [B2 2 A3U l,B2 2 A3U l] st fun v st'=>v=.bool true∧st'=st:=by
 refine A8 [] B9 mixed Tryz.func94 (by rfl) rfl rfl rfl ?_;conv=>whnf
 refine B0 (B3p l hl _) ?_;conv=>whnf
 exact ⟨rfl,rfl⟩
def A4a (l:List Int) (out:List Int) (i:Nat):List Int:=if (out.any fun y=>y==1+C3 (gI l i) 5)=true then out else out++[1+C3 (gI l i) 5]
def N6 (l:List Int) (n:Nat):List Int:=(List.range n).foldl (A4a l) []
theorem A4b (l:List Int) (n:Nat):N6 l (n+1)=A4a l (N6 l n) n:=by unfold N6;rw [List.range_succ,List.foldl_append];rfl
theorem A8w (l:List Int) (n:Nat):(N6 l n).length≤n:=by
 induction n with
 | zero=>exact Nat.le_refl _
 | succ n ih =>
  rw [A4b];unfold A4a
  split
  ·omega
  ·rw [List.length_append];show _+1≤_;omega
def K1 (l:List Int):List Int:=N6 l (min l.length 6)
theorem A9K (l:List Int) (k:Int) (j:Nat) (hj:j<l.length):((l.take (j+1)).any fun y=>y==k)=((l.take j).any (fun y=>y==k)||(gI l j==k)):=by
 rw [L9 hj,List.any_append];simp
theorem A7s (l:List Int) (st:St):S P 69 [B6 l] st fun v st'=>v=B6 (K1 l)∧st'=st:=by
 refine A1D (ty:=3) ?_
 refine A8 [] B9 mixed Tryz.func69 (by rfl) rfl rfl rfl ?_;conv=>whnf
 refine lp (min l.length 6) [0,3,4] (fun i vs s=>∃ sv,vs=[B6 l,sv,eI i]∧F8 3 1 eI (N6 l i) st sv s) ?_ ?_
 ·conv=>whnf
  exact ⟨.emp,rfl,F8.start _ _ _ _⟩
 ·rintro i vs s hi ⟨sv,rfl,hc⟩
  have hlen:=A8w l i
  have hfin:i=min l.length 6→F8 3 1 eI (K1 l) st sv s:=fun e=>by unfold K1;rw [←e];exact hc
  conv=>whnf
  refine C0 (fun h1=>?_) (fun h1=>?_)<;>rw [h1]<;>simp only [decide_eq_true_eq,decide_eq_false_iff_not] at h1
  ·conv=>whnf
   refine C0 (fun h2=>?_) (fun h2=>?_)<;>rw [h2]<;>simp only [decide_eq_true_eq,decide_eq_false_iff_not] at h2
   ·have hi':i<min l.length 6:=by omega
    have hK:=A4b l i
    unfold A4a at hK
    have hm:=E3 (gI l (i:Int).toNat) (n:=5) (by decide)
    have hw:IntKind.i64.wrap (1+C3 (gI l (i:Int).toNat) 5)=1+C3 (gI l i) 5:=A7 (by omega) (by omega)
    conv=>whnf
    refine ⟨rfl,⟨by omega,by omega⟩,?_⟩;conv=>whnf
    refine B0 (A0r _ 5 (by decide) (by decide) _) ?_;conv=>whnf
    rw [hw]
    generalize hkk:1+C3 (gI l i) 5=k at hK
    have hcases:(sv=.emp∧N6 l i=[])∨∃ b g,sv=.own 1 b 0 (N6 l i).length∧s b=some ⟨3,1,(N6 l i).length,g⟩∧∀ j,j<(N6 l i).length→g j=eI (gI (N6 l i) j):=by
     rcases hc with ⟨h0,h3,_⟩ | ⟨_,b,g,_,h3,h4,h5⟩
     ·exact .inl ⟨h3,List.eq_nil_of_length_eq_zero h0⟩
     ·exact .inr ⟨b,g,h3,by rw [h4];exact A0 ..,h5⟩
    refine lp (N6 l i).length [0,3,4,5,6,7] (fun j vs t=>vs=[B6 l,sv,eI i,eI k,eB (((N6 l i).take j).any fun y=>y==k),eI j]∧t=s) ?_ ?_
    ·conv=>whnf
     exact ⟨rfl,rfl⟩
    ·rintro j vs t hj ⟨rfl,rfl⟩
     rcases hcases with ⟨rfl,hnil⟩ | ⟨b,g,rfl,hb,hg⟩
     ·have hj0:j=0:=by rw [hnil] at hj;exact Nat.le_zero.1 hj
      subst hj0
      have hK2:N6 l (i+1)=N6 l i++[k]:=by rw [hK,if_neg (by rw [hnil];simp)]
      conv=>whnf
      refine F8.app (q:=r3) rfl rfl rfl rfl rfl (by rfl) (by show ((N6 l i).length+1) * 8≤140737488355328;omega) hc (fun sv' t' hc'=>?_);conv=>whnf
      refine ⟨rfl,?_⟩;conv=>whnf
      exact nx hi' ⟨sv',by rw [C2 (by omega)],by rw [hK2];exact hc'⟩
     ·conv=>whnf
      cases h3:decide ((j:Int)<((N6 l i).length:Int))
      ·obtain rfl:=E0 h3 hj
       conv=>whnf
       rw [List.take_length]
       cases h4:(N6 l i).any fun y=>y==k
       ·rw [if_neg (by rw [h4];simp)] at hK;conv=>whnf
        refine F8.app (q:=r3) rfl rfl rfl rfl rfl (by rfl) (by show ((N6 l i).length+1) * 8≤140737488355328;omega) hc (fun sv' t' hc'=>?_);conv=>whnf
        refine ⟨rfl,?_⟩;conv=>whnf
        exact nx hi' ⟨sv',by rw [C2 (by omega)],by rw [hK];exact hc'⟩
       ·rw [if_pos h4] at hK;conv=>whnf
        refine ⟨rfl,?_⟩;conv=>whnf
        exact nx hi' ⟨_,by rw [C2 (by omega)],by rw [hK];exact hc⟩
      ·have hj':=G7 h3
       have hsucc:=A9K (N6 l i) k j hj'
       conv=>whnf
       cases h4:((N6 l i).take j).any fun y=>y==k
       ·rw [h4,Bool.false_or] at hsucc;conv=>whnf
        refine ⟨rfl,⟨by omega,by omega⟩,?_⟩;conv=>whnf
        refine F7 hb rfl (by omega) (v:=eI (gI (N6 l i) (j:Int).toNat)) (by rw [Nat.zero_add];exact hg _ (by omega)) ?_;conv=>whnf
        refine ⟨rfl,?_⟩;conv=>whnf
        refine nx hj' ⟨?_,rfl⟩
        rw [C2 (by omega),hsucc];rfl
       ·rw [h4,Bool.true_or] at hsucc;conv=>whnf
        refine ⟨rfl,?_⟩;conv=>whnf
        refine nx hj' ⟨?_,rfl⟩
        rw [C2 (by omega),hsucc]
   ·conv=>whnf
    exact hfin (by omega)
  ·conv=>whnf
   exact hfin (by omega)
def A8Q (x:Y0) (least:Int):Y0:=⟨least,C3 x.rate 4000,1+C3 x.amount 300⟩
def N5 (l:List Y0) (step:Int):Nat→List Y0×Int
 | 0=>([],0)
 | i+1=>((N5 l step i).1++[A8Q (l.getD i default) ((N5 l step i).2+C3 (l.getD i default).least step)],(N5 l step i).2+C3 (l.getD i default).least step+1)
theorem A5I (l:List Y0) (step:Int) (i:Nat):(N5 l step i).1.length=i:=by
 induction i with
 | zero=>rfl
 | succ i ih=>show (_++[_]).length=_;rw [List.length_append,ih];rfl
theorem A6D (l:List Y0) {step:Int} (h:0<step) (i:Nat):0≤(N5 l step i).2∧(N5 l step i).2≤i * step:=by
 induction i with
 | zero=>exact ⟨Int.le_refl _,by show (0:Int)≤((0:Nat):Int) * step;rw [Int.natCast_zero,Int.zero_mul];omega⟩
 | succ i ih =>
  have hm:=E3 (l.getD i default).least h
  show 0≤(N5 l step i).2+C3 (l.getD i default).least step+1∧(N5 l step i).2+C3 (l.getD i default).least step+1≤_
  rw [show ((i+1:Nat):Int) * step=i * step+step by rw [Int.natCast_add,Int.add_mul];simp]
  omega
def L8 (l:List Y0) (step:Int):List Y0:=if l.length=0 then [⟨Int.tdiv step 2,1000,0⟩] else (N5 l step (min l.length 3)).1
theorem A7t (l:List Y0) (step:Int) (h0:0<step) (h1:step≤5000) (st:St):S P 233 [B2 3 O5 l,eI step] st fun v st'=>v=B2 3 O5 (L8 l step)∧st'=st:=by
 refine A1D (ty:=250) ?_
 refine A8 [] B9 mixed Tryz.func233 (by rfl) rfl rfl rfl ?_;conv=>whnf
 refine lp (min l.length 3) [0,1,5,6,7] (fun i vs s=>∃ sv,vs=[B2 3 O5 l,eI step,sv,eI (N5 l step i).2,eI i]∧F8 250 3 O5 (N5 l step i).1 st sv s) ?_ ?_
 ·conv=>whnf
  exact ⟨.emp,rfl,F8.start _ _ _ _⟩
 ·rintro i vs s hi ⟨sv,rfl,hc⟩
  have hlen:=A5I l step i
  have hle:=A6D l h0 i
  have hip:(i:Int) * step≤3 * 5000:=Int.mul_le_mul (by omega) h1 (by omega) (by omega)
  have hsv:(i=0∧sv=.emp)∨(0<i∧∃ b,sv=.own 3 b 0 i):=by
   rcases hc with ⟨h2,h3,_⟩ | ⟨h2,b,_,_,h3,_⟩
   ·exact .inl ⟨by omega,h3⟩
   ·exact .inr ⟨by omega,b,by rw [h3,hlen]⟩
  have hw2:IntKind.i64.wrap (Int.tdiv step 2)=Int.tdiv step 2:=by
   rw [Int.tdiv_eq_ediv_of_nonneg (by omega)]
   exact A7 (by omega) (by omega)
  conv=>whnf
  refine C0 (fun h2=>?_) (fun h2=>?_)<;>rw [h2]<;>simp only [decide_eq_true_eq,decide_eq_false_iff_not] at h2
  case' refine_1 =>
   conv=>whnf
   refine C0 (fun h3=>?_) (fun h3=>?_)<;>rw [h3]<;>simp only [decide_eq_true_eq,decide_eq_false_iff_not] at h3
  case refine_1.refine_1 =>
   have hi':i<min l.length 3:=by omega
   have hm:=E3 (l.getD (i:Int).toNat default).least h0
   have hm2:=E3 (l.getD (i:Int).toNat default).amount (n:=300) (by decide)
   have e1:IntKind.i64.wrap ((N5 l step i).2+C3 (l.getD (i:Int).toNat default).least step)=(N5 l step i).2+C3 (l.getD (i:Int).toNat default).least step:=A7 (by omega) (by omega)
   have e2:IntKind.i64.wrap (1+C3 (l.getD (i:Int).toNat default).amount 300)=1+C3 (l.getD (i:Int).toNat default).amount 300:=A7 (by omega) (by omega)
   have e3:IntKind.i64.wrap ((N5 l step i).2+C3 (l.getD (i:Int).toNat default).least step+1)=(N5 l step i).2+C3 (l.getD (i:Int).toNat default).least step+1:=A7 (by omega) (by omega)
   conv=>whnf
   refine ⟨rfl,⟨by omega,by omega⟩,?_⟩;conv=>whnf
   refine B0 (L0 _ step h0 (by omega) _) ?_;conv=>whnf
   rw [e1]
   refine ⟨[16,17],[],List.range 19,by kernel_rfl,?_⟩;conv=>whnf
   refine ⟨rfl,⟨by omega,by omega⟩,?_⟩;conv=>whnf
   refine ⟨_,D3 (L0 _ 4000 (by decide) (by decide) _),?_⟩;conv=>whnf
   refine ⟨rfl,⟨by omega,by omega⟩,?_⟩;conv=>whnf
   refine ⟨_,D3 (L0 _ 300 (by decide) (by decide) _),?_⟩;conv=>whnf
   rw [e2]
   refine F8.app (y:=A8Q (l.getD (i:Int).toNat default) ((N5 l step i).2+C3 (l.getD (i:Int).toNat default).least step)) (q:=C1e) rfl rfl rfl rfl rfl (by rfl) (by show ((N5 l step i).1.length+1) * 24≤140737488355328;omega) hc (fun sv' t' hc'=>?_);conv=>whnf
   rw [e3]
   refine ⟨rfl,?_⟩;conv=>whnf
   exact nx hi' ⟨sv',by rw [C2 (by omega)];rfl,hc'⟩
  all_goals
   have hie:i=min l.length 3:=by omega
   conv=>whnf
   rcases hsv with ⟨rfl,rfl⟩ | ⟨hp,b,rfl⟩
   ·have hl0:l.length=0:=by omega
    have hT:L8 l step=[⟨Int.tdiv step 2,1000,0⟩]:=by unfold L8;rw [if_pos hl0]
    rw [hT];conv=>whnf
    refine F8.app (y:=⟨Int.tdiv step 2,1000,0⟩) (q:=C1e) rfl rfl rfl rfl rfl (by show AV.agg [eI (IntKind.i64.wrap (Int.tdiv step 2)),eI 1000,eI 0]=_;rw [hw2];rfl) (by show (0+1) * 24≤140737488355328;omega) hc (fun sv' t' hc'=>?_);conv=>whnf
    exact hc'
   ·have hT:L8 l step=(N5 l step i).1:=by unfold L8;rw [if_neg (by omega),hie]
    rw [hT];conv=>whnf
    rw [show ((i:Int)==0)=false by rw [beq_eq_false_iff_ne];omega];conv=>whnf
    exact hc
theorem B3t (l:List D7) (most:Nat) (kinds:Int) (name:Int→D7) (k:Nat):∃ ks:List Nat,O9 l most kinds name k=ks.map (fun x:Nat=>name x)∧ks.Pairwise (·<·)∧(∀ x∈ks,x<k)∧ks.length≤most:=by
 induction k with
 | zero=>exact ⟨[],rfl,.nil,⟨fun x hx=>absurd hx List.not_mem_nil,Nat.zero_le _⟩⟩
 | succ k ih =>
  obtain ⟨ks,h1,h2,h3,h4⟩:=ih
  rw [A4q];unfold A4p
  split
  ·rename_i hc
   rw [Bool.and_eq_true,decide_eq_true_eq,h1,List.length_map] at hc
   refine ⟨ks++[k],by rw [h1,List.map_append];rfl,List.pairwise_append.2 ⟨h2,List.pairwise_singleton _ _,fun a ha b hb=>by rw [List.mem_singleton] at hb;subst hb;exact h3 a ha⟩,fun x hx=>?_,by rw [List.length_append];show ks.length+1≤most;omega⟩
   rcases List.mem_append.1 hx with h | h
   ·have:=h3 x h;omega
   ·rw [List.mem_singleton] at h;omega
  ·exact ⟨ks,h1,h2,fun x hx=>by have:=h3 x hx;omega,h4⟩
theorem A5v {l:List D7} {most:Nat} {kinds:Int} {name:Int→D7} {k:Nat} (hn:∀ x:Nat,x<k→E7 (name x)=true) (hr:∀ x y:Nat,x<y→y<k→slt (name x) (name y)=true):X6 (O9 l most kinds name k)=true∧(O9 l most kinds name k).length≤most∧∀ s∈O9 l most kinds name k,s.size≤12:=by
 obtain ⟨ks,h1,h2,h3,h4⟩:=B3t l most kinds name k
 rw [h1]
 have hall:∀ s∈ks.map (fun x:Nat=>name x),E7 s=true:=fun s hs=>by
  obtain ⟨x,hx,rfl⟩:=List.mem_map.1 hs;exact hn x (h3 x hx)
 refine ⟨?_,by rw [List.length_map];exact h4,fun s hs=>?_⟩
 ·unfold X6
  rw [Bool.and_eq_true,Bool.not_eq_true',List.any_eq_false]
  refine ⟨?_,fun s hs=>by rw [hall s hs];simp⟩
  unfold V7
  rw [List.all_eq_true]
  intro j hj
  have hj:=List.mem_range.1 hj
  rw [List.length_map] at hj
  unfold K7
  rw [Bool.or_eq_true,beq_iff_eq]
  by_cases e:j=0
  ·exact .inl e
  ·refine .inr ?_
   have g:∀ i,i<ks.length→(ks.map (fun x:Nat=>name x)).getD i default=name (ks.getD i 0:Nat):=fun i hi=>by
    rw [List.getD_eq_getElem?_getD,List.getElem?_map,List.getElem?_eq_getElem hi,List.getD_eq_getElem?_getD,List.getElem?_eq_getElem hi];rfl
   rw [g _ (by omega),g _ hj]
   have gm:∀ i,i<ks.length→ks.getD i 0=ks[i]!:=fun i hi=>by rw [List.getD_eq_getElem?_getD,List.getElem?_eq_getElem hi,getElem!_pos ks i hi];rfl
   refine hr _ _ ?_ (h3 _ ?_)
   ·rw [gm _ (by omega),gm _ hj,getElem!_pos ks _ (by omega),getElem!_pos ks _ hj]
    exact List.pairwise_iff_getElem.1 h2 _ _ (by omega) hj (by omega)
   ·rw [gm _ hj,getElem!_pos ks _ hj];exact List.getElem_mem _
 ·have:=hall s hs
  unfold E7 at this
  simp only [Bool.and_eq_true,decide_eq_true_eq] at this
  exact this.1.2
theorem B6Z:((List.range 8).all fun x=>E7 (A0y (x:Nat)))=true:=by kernel_rfl
theorem B9t:((List.range 8).all fun y=>(List.range y).all fun x=>slt (A0y (x:Nat)) (A0y (y:Nat)))=true:=by kernel_rfl
theorem B5Z:((List.range 3).all fun x=>E7 (A3J (x:Nat)))=true:=by kernel_rfl
theorem B7U:((List.range 3).all fun y=>(List.range y).all fun x=>slt (A3J (x:Nat)) (A3J (y:Nat)))=true:=by kernel_rfl
theorem B3Q:((List.range 3).all fun x=>E7 (A3y (x:Nat)))=true:=by kernel_rfl
theorem B6e:((List.range 3).all fun y=>(List.range y).all fun x=>slt (A3y (x:Nat)) (A3y (y:Nat)))=true:=by kernel_rfl
theorem B1C {name:Int→D7} {k:Nat} (h:((List.range k).all fun y=>(List.range y).all fun x=>slt (name (x:Nat)) (name (y:Nat)))=true) (x y:Nat) (hxy:x<y) (hy:y<k):slt (name x) (name y)=true :=
 List.all_eq_true.1 (List.all_eq_true.1 h y (List.mem_range.2 hy)) x (List.mem_range.2 hxy)
theorem B1l {name:Int→D7} {k:Nat} (h:((List.range k).all fun x=>E7 (name (x:Nat)))=true) (x:Nat) (hx:x<k):E7 (name x)=true:=List.all_eq_true.1 h x (List.mem_range.2 hx)
theorem A1s (s:Q8):V8 (N3 s)=true∧A0l (N3 s):=by
 obtain ⟨a1,a2,a3⟩:=A5v (l:=s.skus) (most:=3) (kinds:=8) (name:=A0y) (k:=8) (B1l B6Z) (B1C B9t)
 obtain ⟨b1,b2,b3⟩:=A5v (l:=s.cats) (most:=2) (kinds:=3) (name:=A3J) (k:=3) (B1l B5Z) (B1C B7U)
 unfold N3
 generalize O9 s.skus 3 8 A0y 8=A at a1 a2 a3 ⊢
 generalize O9 s.cats 2 3 A3J 3=B at b1 b2 b3 ⊢
 refine ⟨?_,?_⟩
 ·unfold V8
  rw [a1,b1,decide_eq_true (show A.length≤20 by omega),decide_eq_true (show B.length≤20 by omega)];rfl
 ·exact ⟨by show A.length≤_;omega,by show B.length≤_;omega,fun x hx=>by have:=a3 x hx;show x.size≤_;omega,fun x hx=>by have:=b3 x hx;show x.size≤_;omega⟩
theorem B1u (l:List D7):A0n (W9 l)=true∧(W9 l).length≤3∧∀ s∈W9 l,s.size≤12:=by
 obtain ⟨a1,a2,a3⟩:=A5v (l:=l) (most:=3) (kinds:=3) (name:=A3y) (k:=3) (B1l B3Q) (B1C B6e)
 unfold W9
 generalize O9 l 3 3 A3y 3=A at a1 a2 a3 ⊢
 refine ⟨?_,a2,a3⟩
 unfold X6 at a1
 rw [Bool.and_eq_true] at a1
 unfold A0n
 rw [a1.1,a1.2,decide_eq_true (by omega)];rfl
theorem C3L (n:Int):C3 n 8=0∨C3 n 8=1∨C3 n 8=2∨C3 n 8=3∨C3 n 8=4∨C3 n 8=5∨C3 n 8=6∨C3 n 8=7:=by
 have:=E3 n (n:=8) (by decide);omega
theorem B9r (k:Nat) (h:k<8):A0y k=S8 (97+k):=by
 unfold A0y C3;congr 2;omega
theorem B0B (l:List Ab.Item):(L6 l).map Ab.Item.sku=[S8 97,S8 98,S8 99,S8 100,S8 101,S8 102,S8 103,S8 104]:=by
 unfold L6
 rw [List.map_map]
 have e:∀ k,k<8→(Ab.Item.sku ∘ N0 l) k=S8 (97+(k:Int)):=fun k hk=>by
  rw [←B9r k hk]
  show (N0 l k).sku=_
  unfold N0;split<;>rfl
 have:(List.range 8).map (Ab.Item.sku ∘ N0 l)=(List.range 8).map fun k:Nat=>S8 (97+(k:Int)):=List.map_congr_left fun k hk=>e k (List.mem_range.1 hk)
 rw [this];rfl
theorem A2r (l:List Ab.Item):(L6 l).length=8:=by unfold L6;rw [List.length_map,List.length_range]
theorem B6v (items:List Ab.Item) (s:D7):known items s=(items.map Ab.Item.sku).any fun y=>y.toList==s.toList:=by
 unfold known A0B
 rw [A0R,List.any_map];rfl
theorem A8x (l:List Ab.Item) (n:Int):known (L6 l) (A0y n)=true:=by
 rw [B6v,B0B]
 unfold A0y
 rcases C3L n with h | h | h | h | h | h | h | h<;>rw [h]<;>kernel_rfl
theorem B2R (x:G1):(0≤(A0u x).qty∧(A0u x).qty≤9)∧0≤(A0u x).price∧(A0u x).price<4000:=by
 have h1:=E3 x.qty (n:=10) (by decide)
 have h2:=E3 x.price (n:=4000) (by decide)
 exact ⟨⟨h1.1,by show C3 x.qty 10≤9;omega⟩,h2.1,h2.2⟩
structure A2y (l:List G1):Prop where
 len:l.length≤8
 line:∀ x∈l,(0≤x.qty∧x.qty≤9)∧0≤x.price∧x.price<4000
 sku:∀ x∈l,∃ n,x.sku=A0y n
theorem B1w (l:List G1):A2y (R7 l):=by
 unfold R7
 refine ⟨by rw [List.length_map,List.length_take];omega,fun x hx=>?_,fun x hx=>?_⟩
 ·obtain ⟨y,_,rfl⟩:=List.mem_map.1 hx;exact B2R y
 ·obtain ⟨y,_,rfl⟩:=List.mem_map.1 hx;exact ⟨A2h y.sku,rfl⟩
theorem A2y.lineC {l:List G1} (h:A2y l) {x:G1} (hx:x∈l):lineC x=true:=by
 have:=h.line x hx
 rw [W6];omega
theorem C1v {l:List G1} (h1:∀ x∈l,(0≤x.qty∧x.qty≤9)∧0≤x.price∧x.price<4000):(0≤I5 l∧I5 l≤9 * l.length)∧0≤H9 l∧H9 l≤36000 * l.length:=by
 have:∀ (l:List G1) (a b:Int),(∀ x∈l,(0≤x.qty∧x.qty≤9)∧0≤x.price∧x.price<4000)→(a≤l.foldl (fun s x=>s+x.qty) a∧l.foldl (fun s x=>s+x.qty) a≤a+9 * l.length)∧b≤l.foldl (fun s x=>s+x.qty * x.price) b∧l.foldl (fun s x=>s+x.qty * x.price) b≤b+36000 * l.length:=by
  intro l
  induction l with
  | nil=>intro a b _;simp
  | cons y l ih =>
   intro a b h
   have hy:=h y (List.mem_cons_self ..)
   have h0:0≤y.qty * y.price:=Int.mul_nonneg hy.1.1 hy.2.1
   have h9:y.qty * y.price≤9 * 4000:=Int.mul_le_mul hy.1.2 (by omega) hy.2.1 (by omega)
   have:=ih (a+y.qty) (b+y.qty * y.price) fun x hx=>h x (List.mem_cons_of_mem _ hx)
   rw [List.foldl_cons,List.foldl_cons,List.length_cons]
   omega
 have:=this l 0 0 h1
 unfold I5 H9;omega
theorem B4b {kn:D7→Bool} {l:List G1} (h:∀ x∈l,kn x.sku=true∧lineC x=true):l.find? (H6 kn)=none:=by
 rw [List.find?_eq_none]
 intro x hx
 unfold H6
 rw [(h x hx).1,(h x hx).2];simp
theorem A2y.check {l:List G1} (h:A2y l) {kn:D7→Bool} (hk:∀ n,kn (A0y n)=true):K5 kn l=0:=by
 unfold K5
 have hl:=h.len
 have hs:=C1v h.line
 rw [if_neg (by omega),B4b fun x hx=>⟨by obtain ⟨n,hn⟩:=h.sku x hx;rw [hn];exact hk n,h.lineC hx⟩]
 show (if _ then (5:Int) else 0)=0
 rw [if_neg]
 rw [decide_eq_false (by omega),decide_eq_false (by omega)];decide
end Go.Proofs.YtbajhapmlfbelaaGreat
