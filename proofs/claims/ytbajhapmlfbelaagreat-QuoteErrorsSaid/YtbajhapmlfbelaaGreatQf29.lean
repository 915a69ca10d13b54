/- Part 29 of the proof: contracts of the functions that the law reaches -/
import Derived.Test.YtbajhapmlfbelaaGreatQf28
set_option maxRecDepth 100000
set_option linter.unusedVariables false
set_option linter.unusedSimpArgs false
namespace Go.Proofs.YtbajhapmlfbelaaGreat
open Go Go.Ab
attribute [local irreducible] upd del
theorem ROut.own {R:St→St→Prop} {ty e n:Nat} {fo:Nat→AV} {s t:St} {sv:AV} (h:ROut R ty e fo (n+1) s sv t):∃ b,sv=.own e b 0 (n+1):=by
 obtain ⟨s0,⟨h1,_⟩ | ⟨_,b,_,_,h1,_⟩,h2⟩:=h
 ·cases h1
 ·exact ⟨b,h1⟩
theorem RD.wr {dl:List A0S} {gr:List D6} {dv gv:AV} {s t:St} {b:Nat} {y y':R9} (h:RD dl gr dv gv s t) (hb:s b=some y):RD dl gr dv gv (upd s b y') (upd t b y'):=(A2N dl gr dv gv).write h hb
theorem RD.sup {dl:List A0S} {gr:List D6} {dv gv:AV} {s t:St} (h:RD dl gr dv gv s t):D8 s t:=(A2N dl gr dv gv).sup h
theorem RD.start (s:St):RD [] [] .emp .emp s s:=ROut.start (ROut.start (D8.refl s) _ _ _) _ _ _
theorem RD.appG {dl:List A0S} {gr:List D6} {dv gv:AV} {s t:St} {y:D6} {x:AV} {k:KK} {g:Nat→AV} (h:RD dl gr dv gv s t) (hs:Z2 1 t x=some (1,g)) (hg:g 0=eS y) (hb:gr.length≤1000)
  (hk:∀ gv' t',RD dl (gr++[y]) dv gv' s t'→k gv' t'):A5E T 34 gv x t k:=by
 obtain ⟨s0,hc,h⟩:=h
 refine ROut.app (q:=r9) (f:=A6n (gr++[y])) B2 rfl rfl rfl rfl hs (by rw [hg];simp only [A6n,A7l]) (by show (gr.length+1) * 16≤140737488355328;omega) (ROut.congr h fun k hk=>by simp only [A6n];rw [A3A hk]) (fun sv' t' h'=>hk sv' t' ⟨s0,hc,?_⟩)
 show ROut _ _ _ _ (gr++[y]).length _ _ _
 rw [List.length_append];exact h'
theorem RD.appD {dl:List A0S} {gr:List D6} {dv gv:AV} {s t:St} {y:A0S} {x:AV} {k:KK} {g:Nat→AV} (h:RD dl gr dv gv s t) (hs:Z2 2 t x=some (1,g)) (hg:g 0=A2Q y) (hb:dl.length≤1000)
  (hk:∀ b t',RD (dl++[y]) gr (.own 2 b 0 (dl.length+1)) gv s t'→k (.own 2 b 0 (dl.length+1)) t'):A5E T 42 dv x t k:=by
 refine ROut.app (q:=C4f) (f:=A1b (dl++[y])) (A7d _ _) rfl rfl rfl rfl hs (by rw [hg];simp only [A1b,A7l]) (by show (dl.length+1) * 24≤140737488355328;omega) (ROut.congr h fun k hk=>by simp only [A1b];rw [A3A hk]) (fun sv' t' h'=>?_)
 obtain ⟨b,rfl⟩:=ROut.own h'
 exact hk b t' (RD.of h')
theorem RD.deals {dl:List A0S} {gr:List D6} {dv gv:AV} {s t:St} (h:RD dl gr dv gv s t):(dl=[]∧dv=.emp)∨∃ bd g,dv=.own 2 bd 0 dl.length∧s bd=none∧t bd=some ⟨134,2,dl.length,g⟩∧∀ k,k<dl.length→g k=A1b dl k:=by
 obtain ⟨s0,hc,hg0⟩:=h
 rcases hc with ⟨h0,h1,rfl⟩ | ⟨h0,b,g0,hb,h1,rfl,hgg⟩
 ·exact .inl ⟨List.eq_nil_of_length_eq_zero h0,h1⟩
 ·exact .inr ⟨b,g0,h1,hb,(A7d _ _).sup hg0 b _ (A0 ..),hgg⟩
theorem RD.groups {dl:List A0S} {gr:List D6} {dv gv:AV} {s t:St} (h:RD dl gr dv gv s t):(gv=.emp∧gr=[])∨∃ b g,gv=.own 1 b 0 gr.length∧t b=some ⟨9,1,gr.length,g⟩∧∀ k,k<gr.length→g k=eS (gr.getD k default):=by
 obtain ⟨s0,hc,s1,hc2,hs⟩:=h
 rcases hc2 with ⟨h0,h1,rfl⟩ | ⟨h0,b,g0,hb,h1,rfl,hgg⟩
 ·exact .inl ⟨h1,List.eq_nil_of_length_eq_zero h0⟩
 ·exact .inr ⟨b,g0,h1,hs b _ (A0 ..),hgg⟩
theorem A9R {σ : Type} (px : σ→PSt) (step : σ→B4→σ) (sm:B4→Bool) (l:List B4) (a : σ) (o:List Int) (x:Int):W9 px step sm l a (o++[x])=if sm (F8 l x)=true then goB px step (W9 px step sm l a o) (F8 l x) else W9 px step sm l a o:=by
 unfold W9
 rw [List.filter_append,List.foldl_append]
 by_cases h:sm (F8 l x)=true
 ·rw [if_pos h,List.filter_cons_of_pos (p:=fun x=>sm (F8 l x)) h];rfl
 ·rw [if_neg h,List.filter_cons_of_neg (p:=fun x=>sm (F8 l x)) h];rfl
def named (l:List D6):List D6:=l.filter fun g=>!L7 g
theorem B0m (l:List D6) (g:D6):named (l++[g])=named l++(if L7 g=true then [] else [g]):=by
 unfold named
 rw [List.filter_append]
 congr 1
 cases h:L7 g
 ·rw [List.filter_cons_of_pos (p:=fun g=>!L7 g) (by rw [h];rfl)];rfl
 ·rw [List.filter_cons_of_neg (p:=fun g=>!L7 g) (by rw [h];simp)];rfl
theorem C2D (l:List D6) (g:D6):(!L7 g&&l.any fun y=>y.toList==g.toList)=!(L7 g||!inB (named l) g):=by
 cases hn:L7 g
 ·rw [Bool.not_false,Bool.true_and,Bool.false_or,Bool.not_not]
  unfold inB named
  rw [←Bool.coe_iff_coe,List.any_eq_true,List.any_eq_true]
  constructor
  ·rintro ⟨y,h1,h2⟩
   refine ⟨y,List.mem_filter.2 ⟨h1,?_⟩,by rw [Bool.beq_comm];exact h2⟩
   unfold L7 at hn ⊢
   rw [eq_of_beq h2,hn];rfl
  ·rintro ⟨y,h1,h2⟩
   exact ⟨y,(List.mem_filter.1 h1).1,by rw [Bool.beq_comm];exact h2⟩
 ·rfl
theorem C4W {σ : Type} {px : σ→PSt} {step : σ→B4→σ} {a : σ} {pr:B4} {G:List D6} (hG:named G=(px a).groups) :
  goB px step a pr=if (!L7 pr.group&&G.any fun y=>y.toList==pr.group.toList)=true then a else step a pr:=by
 unfold goB
 rw [C2D,hG]
 cases (L7 pr.group||!inB (px a).groups pr.group)<;>rfl
theorem C3o {items:List Ab.Item} {p:PSt} {pr:B4} (hk:S7 pr=true) {G:List D6} (hG:named G=p.groups) :
  goB (fun p=>p) (A4a items) p pr=if (!L7 pr.group&&G.any fun y=>y.toList==pr.group.toList)=true then p else A4a items p pr:=C4W (px:=fun p=>p) hG
theorem B8O (l:List D6):(named l).length≤l.length:=List.length_filter_le _ _
set_option maxHeartbeats 8000000 in
theorem C1T (r:H8) (codes:List D6) (l:List G1) (hf:Y0 r) (hsm:A0w r) (hR:P9 r=true) (hcn:Sm codes.length) (hcs:∀ s∈codes,Sm s.size) (hln:Sm l.length) (st:St) :
  S P 19 [G2 r,D2 codes,B1 3 G4 l] st fun v st' =>
   v=(if D4 r codes l=0 then .tuple [P1 (T7 r l (S9 r.promos codes) (S9 r.promos codes)),eI 0] else .tuple [P1 ⟨[],0,0,[]⟩,eI (D4 r codes l)])∧st'=st:=by
 obtain ⟨X,hX⟩:∃ X,X=T7 r l (S9 r.promos codes) (S9 r.promos codes):=⟨_,rfl⟩
 refine S.post (post:=fun v st'=>(D4 r codes l≠0∧v=.tuple [.agg [.emp,eI 0,eI 0,.emp],eI (D4 r codes l)]∧D8 st st') ∨
   (D4 r codes l=0∧∃ bn fn dv,v=.tuple [.agg [.own 1 bn 0 l.length,eI X.net,eI X.ship,dv],eI 0] ∧
    st bn=none∧st' bn=some ⟨2,1,l.length,fn⟩∧(∀ k,k<l.length→fn k=eI (gI X.nets k))∧D8 st st' ∧
    ((X.deals=[]∧dv=.emp)∨∃ bd g,dv=.own 2 bd 0 X.deals.length∧st bd=none∧bd≠bn∧st' bd=some ⟨134,2,X.deals.length,g⟩∧∀ k,k<X.deals.length→g k=A1b X.deals k))) ?_
  (fun v st' hv=>by
   rcases hv with ⟨h1,rfl,hs⟩ | ⟨h1,bn,fn,dv,rfl,h4,h5,h6,hs,h7⟩
   ·refine ⟨_,st,⟨rfl,rfl⟩,?_⟩
    rw [if_neg h1]
    refine (hs.shift _).trans (B0.tuple (B0.cons (B0.agg ?_) (B0.keep _ _)) rfl)
    exact B0.cons (K4 1 _) (B0.cons (B0.keep [eI 0] _) (B0.cons (B0.keep [eI 0] _) (K4 2 _)))
   ·refine ⟨_,st,⟨rfl,rfl⟩,?_⟩
    rw [if_pos h1,←hX]
    refine B0.tuple (B0.cons (B0.agg ?_) (B0.keep _ _)) rfl
    have hnl:X.nets.length=l.length:=by rw [hX];show (U4 _ _).length=_;unfold U4;rw [List.length_map,List.length_range]
    clear hX
    have e1:A8 X.nets=.arr 1 l.length (fun k=>eI (gI X.nets k)):=by unfold A8 B1;rw [hnl]
    refine B0.cons (t:=del st' bn) ?_ (B0.cons (B0.keep [eI X.net] _) (B0.cons (B0.keep [eI X.ship] _) ?_))
    ·rw [e1];exact G5 h5 rfl (Nat.le_refl _) h6
    ·rcases h7 with ⟨h8,rfl⟩ | ⟨bd,g,rfl,h8,h9,h10,h11⟩
     ·rw [h8]
      exact ((D8.del hs h4).shift _).trans (K4 2 _)
     ·refine (G5 (b:=bd) (y:=⟨134,2,X.deals.length,g⟩) (f:=A1b X.deals) (by rw [A1U h9];exact h10) rfl (Nat.le_refl _) h11).trans ?_
      exact (D8.del (D8.del hs h4) h8).shift _)
 have hC:=hR
 unfold P9 A8T at hC
 simp only [Bool.and_eq_true] at hC
 obtain ⟨⟨⟨⟨_,hpc⟩,_⟩,hfee,hfree⟩,_⟩:=hC
 rw [J5] at hfee hfree
 have hpk:D4 r codes l=if A1a codes=false then 2 else N9 (known r.items) l:=by unfold D4;rw [if_neg (by rw [hR];simp)]
 refine G0 [3,15,20] Tryz.func19 ?_
 intro b6 hb6;conv=>whnf
 refine I2 (B6B r hsm hR _) ?_
 refine C5 (C1Q codes hcn hcs _) ?_
 have h6s:∀ x:R9,D8 st (upd st b6 x):=fun x=>(D8.refl st).upd hb6
 cases hcc:A1a codes
 ·rw [if_pos hcc] at hpk
  have hk0:D4 r codes l≠0:=by rw [hpk];decide
  conv=>whnf
  refine N1 (A0 ..) rfl ?_
  refine F2 (A0 ..) (A5 ..) ?_
  exact .inl ⟨hk0,by rw [hpk];rfl,(h6s _).over hb6⟩
 rw [if_neg (by rw [hcc];simp)] at hpk;conv=>whnf
 refine C5 (C1P r.items l hsm.n hln _) ?_
 rw [←hpk];conv=>whnf
 cases h1:(D4 r codes l != 0)
 case true =>
  have hk0:D4 r codes l≠0:=by simpa using h1
  conv=>whnf
  refine N1 (A0 ..) rfl ?_
  refine F2 (A0 ..) (A5 ..) ?_
  exact .inl ⟨hk0,rfl,(h6s _).over hb6⟩
 have hk0:D4 r codes l=0:=by simpa using h1
 have hck:=A4f hk0
 have hli:=hck.lines
 have hlen:=hli.len
 have hus0:=B3K hli
 have hitl:(C3 r.items l).length=l.length:=List.length_map ..
 obtain ⟨u1,u2,u3⟩:=A1Q l hli.line l.length (Nat.le_refl _)
 conv=>whnf
 refine ⟨[],[],List.range 13,by kernel_rfl,?_⟩;conv=>whnf
 refine X9 (C1V l hlen hli.line (eq_of_beq hli.may) hus0.ok.len _) ?_
 refine X9 (B4U r.items l hsm.n hlen hli.known _) ?_
 refine X9 (B9p r.promos codes hpc hcn _) ?_
 have hol:(S9 r.promos codes).length≤60:=by
  rw [(A2q _ _).length_eq]
  have:=W5 r.promos codes r.promos.length
  have:=hck.few;omega
 have hom:∀ x∈S9 r.promos codes,0≤x∧x.toNat<r.promos.length:=fun x hx=>A0d ((A2q _ _).mem_iff.1 hx)
 have hXd:X=⟨U4 l.length (p1B r l (S9 r.promos codes)).us,N5 (p1B r l (S9 r.promos codes)),(p2B r l (p1B r l (S9 r.promos codes)) (S9 r.promos codes)).2,(p2B r l (p1B r l (S9 r.promos codes)) (S9 r.promos codes)).1.deals⟩:=hX
 clear hX
 generalize S9 r.promos codes=o at *
 generalize hs6:(upd st b6 _)=s6 at *
 have h6:s6 b6=some ⟨44,4,1,fun _=>H4 r44.zero⟩:=by rw [←hs6];exact A0 ..
 have hst6:D8 st s6:=by rw [←hs6];exact h6s _
 clear hs6
 refine mkO rfl rfl rfl (by show 8 * l.length≤_;omega) (by omega) (by rfl) (fun bn hbn=>?_);conv=>whnf
 intro bp hbp
 have hnb:bn≠bp:=fun e=>by subst e;rw [A0] at hbp;cases hbp
 have hbp6:s6 bp=none:=by rw [A6 hnb.symm] at hbp;exact hbp
 have hb6p:b6≠bp:=fun e=>by subst e;rw [h6] at hbp6;cases hbp6
 have hb6n:b6≠bn:=fun e=>by subst e;rw [h6] at hbn;cases hbn
 have hstn:st bn=none:=hst6.none hbn
 have hstp:st bp=none:=hst6.none hbp6
 conv=>whnf
 refine stU (A0 ..) rfl ?_
 rw [B7];conv=>whnf
 have hat:∀ {dl:List A0S} {gr:List D6} {dv gv:AV} {Y Z:R9} {t:St},RD dl gr dv gv (upd (upd s6 bn Y) bp Z) t→t bn=some Y∧t bp=some Z:=fun h=>⟨h.sup bn _ (by rw [A6 hnb,A0]),h.sup bp _ (A0 ..)⟩
 have hwn:∀ {dl:List A0S} {gr:List D6} {dv gv:AV} {Y Z Y':R9} {t:St},RD dl gr dv gv (upd (upd s6 bn Y) bp Z) t→RD dl gr dv gv (upd (upd s6 bn Y') bp Z) (upd t bn Y'):=fun {_ _ _ _ Y Z Y' t} h=>by
  have:=h.wr (b:=bn) (y':=Y') (by rw [A6 hnb,A0])
  rw [Q8 hnb.symm,B7] at this;exact this
 have hwp:∀ {dl:List A0S} {gr:List D6} {dv gv:AV} {Y Z Z':R9} {t:St},RD dl gr dv gv (upd (upd s6 bn Y) bp Z) t→RD dl gr dv gv (upd (upd s6 bn Y) bp Z') (upd t bp Z'):=fun {_ _ _ _ Y Z Z' t} h=>by
  have:=h.wr (b:=bp) (y':=Z') (A0 ..)
  rw [B7] at this;exact this
 have htk:∀ {i:Nat},i<o.length→o.take (i+1)=o.take i++[gI o i]:=fun h=>J0 h
 refine lp o.length [3,6,9,10,11,12,13,14] (fun i vs t=>∃ (p:PSt) (dv gv:AV) (G:List D6) (fp:Nat→AV),p=W9 (fun p=>p) (A4a (C3 r.items l)) S7 r.promos ⟨U0 l,[],[]⟩ (o.take i) ∧
   vs=[.fptr (G2 r) 0,.optr 4 b6 0 0,D1 p.us,B1 4 F1 (C3 r.items l),A8 o,.optr 4 bp 0 0,gv,eI i] ∧
   RD p.deals G dv gv (upd (upd s6 bn ⟨2,1,l.length,fun _=>H4 r2.zero⟩) bp ⟨44,4,1,fp⟩) t∧fp 0=.agg [.own 1 bn 0 l.length,eI 0,eI 0,dv] ∧
   named G=p.groups∧G.length≤i∧p.deals.length≤i∧A6j (C3 r.items l) p.us∧∃ x,Off (U0 l) p.us x) ?_ ?_
 ·conv=>whnf
  exact ⟨⟨U0 l,[],[]⟩,.emp,.emp,[],_,rfl,rfl,RD.start _,A5 ..,rfl,Nat.le_refl _,Nat.le_refl _,hus0,0,Off.refl hus0.ok⟩
 ·rintro i vs t hi ⟨p,dv,gv,G,fp,hp,rfl,hR,hfp,hG,hGn,hDn,hus,x,hoff⟩
  conv=>whnf
  cases hd:decide ((i:Int)<(o.length:Int))
  case true =>
   have hi':=E4 hd
   have hx:=hom _ (B3 hi')
   have hx0:0≤gI o (i:Int).toNat:=hx.1
   have hx1:(gI o (i:Int).toNat).toNat<r.promos.length:=hx.2
   have hpm:F8 r.promos (gI o i)∈r.promos:=B3 hx.2
   have hpr:F8 r.promos (gI o i)=r.promos.getD (gI o (i:Int).toNat).toNat default:=rfl
   have hps:PSm (F8 r.promos (gI o i)):=⟨hsm.promos _ hpm,hck.promo _ hpm,hf.fit _ hpm⟩
   have hnext:=A9R (fun p=>p) (A4a (C3 r.items l)) S7 r.promos ⟨U0 l,[],[]⟩ (o.take i) (gI o i)
   rw [←htk hi',←hp,hpr] at hnext
   rw [hpr] at hps;conv=>whnf
   refine ⟨[8,9],[1,5,7],List.range 10,by kernel_rfl,?_⟩;conv=>whnf
   refine ⟨_,fun s _=>⟨rfl,rfl⟩,?_⟩;conv=>whnf
   refine E1 ?_
   refine ⟨_,fun s _=>⟨rfl,rfl⟩,?_⟩;conv=>whnf
   refine ⟨rfl,⟨by show 0≤gI o (i:Int).toNat;omega,by show gI o (i:Int).toNat<(r.promos.length:Int);omega⟩,?_⟩;conv=>whnf
   refine ⟨_,fun s _=>⟨rfl,rfl⟩,?_⟩;conv=>whnf
   have hend:∀ {q:PSt} {dv' gv':AV} {G':List D6} {fp':Nat→AV} {t':St},q=W9 (fun p=>p) (A4a (C3 r.items l)) S7 r.promos ⟨U0 l,[],[]⟩ (o.take (i+1))→RD q.deals G' dv' gv' (upd (upd s6 bn ⟨2,1,l.length,fun _=>H4 r2.zero⟩) bp ⟨44,4,1,fp'⟩) t'→fp' 0=.agg [.own 1 bn 0 l.length,eI 0,eI 0,dv'] →
     named G'=q.groups→G'.length≤i+1→q.deals.length≤i+1→A6j (C3 r.items l) q.us→(∃ x,Off (U0 l) q.us x)→∃ (p:PSt) (dv gv:AV) (G:List D6) (fp:Nat→AV),p=W9 (fun p=>p) (A4a (C3 r.items l)) S7 r.promos ⟨U0 l,[],[]⟩ (o.take (i+1)) ∧
     [.fptr (G2 r) 0,.optr 4 b6 0 0,D1 q.us,B1 4 F1 (C3 r.items l),A8 o,.optr 4 bp 0 0,gv',eI (IntKind.i64.wrap ((i:Int)+1))]=[.fptr (G2 r) 0,.optr 4 b6 0 0,D1 p.us,B1 4 F1 (C3 r.items l),A8 o,.optr 4 bp 0 0,gv,eI ((i+1:Nat):Int)] ∧
     RD p.deals G dv gv (upd (upd s6 bn ⟨2,1,l.length,fun _=>H4 r2.zero⟩) bp ⟨44,4,1,fp⟩) t'∧fp 0=.agg [.own 1 bn 0 l.length,eI 0,eI 0,dv] ∧
     named G=p.groups∧G.length≤i+1∧p.deals.length≤i+1∧A6j (C3 r.items l) p.us∧∃ x,Off (U0 l) p.us x:=fun {q dv' gv' G' fp' t'} h1 h2 h3 h4 h5 h6 h7 h8=>⟨q,dv',gv',G',fp',h1,by rw [B8 (by omega)],h2,h3,h4,h5,h6,h7,h8⟩
   cases h7:((r.promos.getD (gI o (i:Int).toNat).toNat default).kind==7)
   case true =>
    rw [if_neg (by unfold S7;rw [h7];simp)] at hnext;conv=>whnf
    refine G7 ?_
    exact nx hi' (hend hnext.symm hR hfp hG (by omega) (by omega) hus ⟨x,hoff⟩)
   case false =>
    have hns:S7 (r.promos.getD (gI o (i:Int).toNat).toNat default)=true:=by unfold S7;rw [h7];rfl
    rw [if_pos hns,C3o hns hG] at hnext;conv=>whnf
    refine C5 (B5g G (r.promos.getD (gI o (i:Int).toNat).toNat default).group (by omega) gv _ hR.groups) ?_
    cases htk:(!L7 (r.promos.getD (gI o (i:Int).toNat).toNat default).group&&G.any fun y=>y.toList==(r.promos.getD (gI o (i:Int).toNat).toNat default).group.toList)
    case true =>
     rw [if_pos htk] at hnext;conv=>whnf
     refine G7 ?_
     exact nx hi' (hend hnext.symm hR hfp hG (by omega) (by omega) hus ⟨x,hoff⟩)
    case false =>
     rw [if_neg (by rw [htk];simp)] at hnext
     have hk7:(r.promos.getD (gI o (i:Int).toNat).toNat default).kind≠7:=by simpa using h7
     obtain ⟨y,hoy⟩:=B3X hus hps.fit hps.right hk7
     have hus2:=hus.off hoy
     have hof2:=hoff.trans hoy
     rw [←hnext] at hus2 hof2
     have hAs:A4a (C3 r.items l) p (r.promos.getD (gI o (i:Int).toNat).toNat default)=if (X8 (C3 r.items l) p.us (r.promos.getD (gI o (i:Int).toNat).toNat default)).2>0 then A1g ⟨(X8 (C3 r.items l) p.us (r.promos.getD (gI o (i:Int).toNat).toNat default)).1,p.deals,p.groups⟩ (r.promos.getD (gI o (i:Int).toNat).toNat default) (X8 (C3 r.items l) p.us (r.promos.getD (gI o (i:Int).toNat).toNat default)).2 else p:=rfl
     conv=>whnf
     refine call (C6d (C3 r.items l) p.us (r.promos.getD (gI o (i:Int).toNat).toNat default) hps hk7 hus _) (fun v t' hv=>?_)
     obtain ⟨⟨z,rfl,hz⟩,rfl⟩:=hv
     conv=>whnf
     cases hgt:decide ((X8 (C3 r.items l) p.us (r.promos.getD (gI o (i:Int).toNat).toNat default)).2>0)
     case false =>
      rw [if_neg (of_decide_eq_false hgt)] at hAs
      rw [hAs] at hnext;conv=>whnf
      refine G7 ?_
      exact nx hi' (hend hnext.symm hR hfp hG (by omega) (by omega) hus ⟨x,hoff⟩)
     case true =>
      have hgt':=of_decide_eq_true hgt
      rw [if_pos hgt'] at hAs
      rw [hAs] at hnext
      obtain rfl:=hz hgt'
      conv=>whnf
      refine RD.appG (y:=(r.promos.getD (gI o (i:Int).toNat).toNat default).group) hR rfl rfl (by omega) (fun gv' t1 hR1=>?_);conv=>whnf
      have hdv:=ROut.head hR1
      rcases hdv with rfl | ⟨bo,rfl⟩
      all_goals
       refine F2 (hat hR1).2 hfp ?_
       refine RD.appD (y:=⟨(r.promos.getD (gI o (i:Int).toNat).toNat default).id,(X8 (C3 r.items l) p.us (r.promos.getD (gI o (i:Int).toNat).toNat default)).2⟩) hR1 rfl (by rfl) (by omega) (fun bd t2 hR2=>?_);conv=>whnf
       refine N1 (hat hR2).2 hfp ?_
       refine G7 ?_
       refine nx hi' ?_
       have hD:(A1g ⟨(X8 (C3 r.items l) p.us (r.promos.getD (gI o (i:Int).toNat).toNat default)).1,p.deals,p.groups⟩ (r.promos.getD (gI o (i:Int).toNat).toNat default) (X8 (C3 r.items l) p.us (r.promos.getD (gI o (i:Int).toNat).toNat default)).2).deals=p.deals++[⟨(r.promos.getD (gI o (i:Int).toNat).toNat default).id,(X8 (C3 r.items l) p.us (r.promos.getD (gI o (i:Int).toNat).toNat default)).2⟩]:=rfl
       have hGr:(A1g ⟨(X8 (C3 r.items l) p.us (r.promos.getD (gI o (i:Int).toNat).toNat default)).1,p.deals,p.groups⟩ (r.promos.getD (gI o (i:Int).toNat).toNat default) (X8 (C3 r.items l) p.us (r.promos.getD (gI o (i:Int).toNat).toNat default)).2).groups=p.groups++(if L7 (r.promos.getD (gI o (i:Int).toNat).toNat default).group=true then [] else [(r.promos.getD (gI o (i:Int).toNat).toNat default).group]):=rfl
       have hUs:(A1g ⟨(X8 (C3 r.items l) p.us (r.promos.getD (gI o (i:Int).toNat).toNat default)).1,p.deals,p.groups⟩ (r.promos.getD (gI o (i:Int).toNat).toNat default) (X8 (C3 r.items l) p.us (r.promos.getD (gI o (i:Int).toNat).toNat default)).2).us=(X8 (C3 r.items l) p.us (r.promos.getD (gI o (i:Int).toNat).toNat default)).1:=rfl
       rw [hnext] at hus2 hof2
       exact hend (G':=G++[(r.promos.getD (gI o (i:Int).toNat).toNat default).group]) hnext.symm (hwp hR2) (A5 ..) (by rw [B0m,hG];rfl) (by rw [List.length_append];show G.length+1≤_;omega) (by rw [hD,List.length_append];show p.deals.length+1≤_;omega) hus2 ⟨_,hof2⟩
  case false =>
   obtain rfl:=C6 hd hi
   rw [List.take_length] at hp
   have hp1:p1B r l o=p:=hp.symm
   rw [hp1] at hXd
   clear hp1 hp
   have hu1:=hus.ok
   have hul:=hu1.len
   have hus1:=hu1.sum
   have hnet0:=C4 hu1.nets0
   have hline:∀ k,k<p.us.length→0≤(gU p.us k).line∧(gU p.us k).line.toNat<l.length:=fun k hk=>by
    have:=hus.line _ (B3 hk)
    rw [hitl] at this;exact this
   have hul1:p.us.length=(U0 l).length:=hoff.len
   conv=>whnf
   refine lp p.us.length [3,6,9,11,12,13,18] (fun k vs t=>∃ (fn fp:Nat→AV),vs=[.fptr (G2 r) 0,.optr 4 b6 0 0,D1 p.us,A8 o,.optr 4 bp 0 0,gv,eI k] ∧
    RD p.deals G dv gv (upd (upd s6 bn ⟨2,1,l.length,fn⟩) bp ⟨44,4,1,fp⟩) t∧fp 0=.agg [.own 1 bn 0 l.length,eI (A7 ((E2 p.us).take k)),eI 0,dv]∧∀ j,j<l.length→fn j=eI (G8 (p.us.take k) j)) ?_ ?_
   ·conv=>whnf
    exact ⟨_,fp,rfl,hR,hfp,fun j _=>rfl⟩
   ·clear hR hfp fp
    rintro k vs t hk ⟨fn,fp,rfl,hR,hfp,hfn⟩
    obtain ⟨htn,htp⟩:=hat hR
    conv=>whnf
    cases hd2:decide ((k:Int)<(p.us.length:Int))
    case true =>
     have hk':=E4 hd2
     have hlk:0≤(gU p.us (k:Int).toNat).line∧(gU p.us (k:Int).toNat).line.toNat<l.length:=hline k hk'
     have hn0:0≤(gU p.us k).net:=hu1.at0 k
     have hn1:(gU p.us k).net≤10000000000000:=hu1.le (B3 hk')
     have e1:=L6 (l:=E2 p.us) (i:=k) (by rw [List.length_map];exact hk')
     have e4:gI (E2 p.us) k=(gU p.us k).net:=E6 B5.net p.us hk'
     have e2:=K1 hu1.nets0 (k+1)
     have e3:=C4 (l:=(E2 p.us).take k) (fun x hx=>hu1.nets0 x (List.take_subset _ _ hx))
     have hlb:=A0s hu1 k (gU p.us (k:Int).toNat).line.toNat
     have hlb2:=A0s hu1 (k+1) (gU p.us (k:Int).toNat).line.toNat
     have hln1:G8 (p.us.take (k+1)) (gU p.us (k:Int).toNat).line.toNat=G8 (p.us.take k) (gU p.us (k:Int).toNat).line.toNat+(gU p.us (k:Int).toNat).net:=(W4 hk' (gU p.us k).line.toNat).trans (if_pos rfl)
     have hfl:fn (0+(gU p.us (k:Int).toNat).line.toNat)=eI (G8 (p.us.take k) (gU p.us (k:Int).toNat).line.toNat):=by rw [Nat.zero_add];exact hfn _ hlk.2
     have w1:IntKind.i64.wrap (G8 (p.us.take k) (gU p.us (k:Int).toNat).line.toNat+(gU p.us (k:Int).toNat).net)=G8 (p.us.take (k+1)) (gU p.us (k:Int).toNat).line.toNat:=by rw [hln1];exact A9 (by omega) (by omega)
     have w2:IntKind.i64.wrap (A7 ((E2 p.us).take k)+(gU p.us (k:Int).toNat).net)=A7 ((E2 p.us).take (k+1)):=by rw [e1,e4];exact A9 (by omega) (by omega)
     conv=>whnf
     refine ⟨[23],[],List.range 24,by kernel_rfl,?_⟩;conv=>whnf
     refine F2 htp hfp ?_
     refine E1 ?_
     refine F2 htp hfp ?_
     refine E1 ?_
     refine ⟨rfl,⟨by show 0≤(gU p.us (k:Int).toNat).line;exact hlk.1,by show (gU p.us (k:Int).toNat).line<(l.length:Int);have:=hlk.2;have:=hlk.1;omega⟩,?_⟩;conv=>whnf
     refine ldV htn rfl (by show 0+(gU p.us (k:Int).toNat).line.toNat<_;have:=hlk.2;omega) hfl ?_;conv=>whnf
     refine E1 ?_
     refine ⟨rfl,⟨by show 0≤(gU p.us (k:Int).toNat).line;exact hlk.1,by show (gU p.us (k:Int).toNat).line<(l.length:Int);have:=hlk.2;have:=hlk.1;omega⟩,?_⟩;conv=>whnf
     refine stV htn rfl (by show 0+(gU p.us (k:Int).toNat).line.toNat<_;have:=hlk.2;omega) hfl (by rfl) ?_
     have hP5:=hwn (Y':=⟨2,1,l.length,C9 fn (0+(gU p.us (k:Int).toNat).line.toNat) (eI (G8 (p.us.take (k+1)) (gU p.us (k:Int).toNat).line.toNat))⟩) hR
     rw [←w1] at hP5
     obtain ⟨_,htp2⟩:=hat hP5
     conv=>whnf
     refine ⟨[9],[],List.range 10,by kernel_rfl,?_⟩;conv=>whnf
     refine F2 htp2 hfp ?_
     refine E1 ?_
     refine N1 htp2 hfp ?_
     refine G7 ?_
     refine nx hk' ⟨_,_,by rw [B8 (by omega)],hwp hP5,?_,fun j hj=>?_⟩
     ·rw [A5,←w2];rfl
     ·show C9 fn (0+(gU p.us (k:Int).toNat).line.toNat) _ j=_
      rw [Nat.zero_add]
      by_cases hj2:j=(gU p.us (k:Int).toNat).line.toNat
      ·subst hj2
       rw [A5,w1]
      ·rw [H3 hj2,W4 hk' j,if_neg (fun e=>hj2 e.symm)];exact hfn j hj
    case false =>
     obtain rfl:=C6 hd2 hk
     rw [List.take_length] at hfn
     have htk2:(E2 p.us).take p.us.length=E2 p.us:=by rw [←List.length_map (f:=B5.net),List.take_length]
     rw [htk2] at hfp
     change fp 0=.agg [.own 1 bn 0 l.length,eI (N5 p),eI 0,dv] at hfp
     have hF:A0C r.ship (U0 l).length (N5 p)=if ((p.us.length:Int)=0∨(r.ship.free>0∧N5 p≥r.ship.free)) then 0 else r.ship.fee:=by unfold A0C;rw [hul1]
     have hnb0:0≤N5 p:=hnet0
     conv=>whnf
     refine B9 (fun g1=>?_) (fun g1=>?_)<;>rw [g1]<;>simp only [decide_eq_true_eq,decide_eq_false_iff_not] at g1
     case' refine_1 =>
      conv=>whnf
      refine B9 (fun g2=>?_) (fun g2=>?_)<;>rw [g2]<;>simp only [beq_iff_eq,beq_eq_false_iff_ne,ne_eq] at g2
     case' refine_1.refine_1 =>
      conv=>whnf
      refine stU htp hfp ?_
      have hR3:=hwp (Z':=⟨44,4,1,C9 fp 0 (.agg [.own 1 bn 0 l.length,eI (N5 p),eI r.ship.fee,dv])⟩) hR
      have hfp3:C9 fp 0 (.agg [.own 1 bn 0 l.length,eI (N5 p),eI r.ship.fee,dv]) 0=.agg [.own 1 bn 0 l.length,eI (N5 p),eI (A0C r.ship (U0 l).length (N5 p)),dv]:=by rw [A5,hF,if_neg (by omega)]
     case' refine_1.refine_2 =>
      conv=>whnf
      refine F2 htp hfp ?_
      refine B9 (fun g3=>?_) (fun g3=>?_)<;>rw [g3]<;>simp only [decide_eq_true_eq,decide_eq_false_iff_not] at g3
     case' refine_1.refine_2.refine_1 =>
      conv=>whnf
      refine stU htp hfp ?_
      have hR3:=hwp (Z':=⟨44,4,1,C9 fp 0 (.agg [.own 1 bn 0 l.length,eI (N5 p),eI r.ship.fee,dv])⟩) hR
      have hfp3:C9 fp 0 (.agg [.own 1 bn 0 l.length,eI (N5 p),eI r.ship.fee,dv]) 0=.agg [.own 1 bn 0 l.length,eI (N5 p),eI (A0C r.ship (U0 l).length (N5 p)),dv]:=by rw [A5,hF,if_neg (by omega)]
     case' refine_1.refine_2.refine_2 =>
      have hR3:=hR
      have hfp3:fp 0=.agg [.own 1 bn 0 l.length,eI (N5 p),eI (A0C r.ship (U0 l).length (N5 p)),dv]:=by rw [hfp,hF,if_pos (by omega)]
     case' refine_2 =>
      have hR3:=hR
      have hfp3:fp 0=.agg [.own 1 bn 0 l.length,eI (N5 p),eI (A0C r.ship (U0 l).length (N5 p)),dv]:=by rw [hfp,hF,if_pos (by omega)]
     all_goals
      conv=>whnf
      clear hR hfp hF
      have hfeB:0≤A0C r.ship (U0 l).length (N5 p)∧A0C r.ship (U0 l).length (N5 p)≤10000000000000:=by
       unfold A0C;split<;>omega
      refine lp o.length [3,6,11,12,13,19] (fun i vs t=>∃ (a:PSt×Int) (dv gv:AV) (G:List D6) (fp:Nat→AV),a=W9 (fun a=>a.1) (T4 (N5 p)) Y5 r.promos (p,A0C r.ship (U0 l).length (N5 p)) (o.take i) ∧
       vs=[.fptr (G2 r) 0,.optr 4 b6 0 0,A8 o,.optr 4 bp 0 0,gv,eI i] ∧
       RD a.1.deals G dv gv (upd (upd s6 bn ⟨2,1,l.length,fn⟩) bp ⟨44,4,1,fp⟩) t∧fp 0=.agg [.own 1 bn 0 l.length,eI (N5 p),eI a.2,dv] ∧
       named G=a.1.groups∧G.length≤60+i∧a.1.deals.length≤60+i∧0≤a.2∧a.2≤10000000000000) ?_ ?_
      ·conv=>whnf
       exact ⟨(p,A0C r.ship (U0 l).length (N5 p)),dv,gv,G,_,rfl,rfl,hR3,hfp3,hG,by omega,by show p.deals.length≤_;omega,hfeB⟩
      clear hR3 hfp3 hG hGn hDn htp htn hd hd2 hk hi
      rintro i vs t hi ⟨a,dv,gv,G,fp,ha,rfl,hR,hfp,hG,hGn,hDn,ha0,ha1⟩
      obtain ⟨htn,htp⟩:=hat hR
      conv=>whnf
      cases hd:decide ((i:Int)<(o.length:Int))
      case false =>
       obtain rfl:=C6 hd hi
       rw [List.take_length] at ha
       have hp2:p2B r l p o=a:=ha.symm
       rw [hp2] at hXd
       have h6b:t b6=some ⟨44,4,1,fun _=>H4 r44.zero⟩:=hR.sup b6 _ (by rw [A6 hb6p,A6 hb6n];exact h6)
       have h76:D8 s6 t:=fun c x hc=>hR.sup c x (by
        have e1:c≠bp:=fun e=>by subst e;rw [hbp6] at hc;cases hc
        have e2:c≠bn:=fun e=>by subst e;rw [hbn] at hc;cases hc
        rw [A6 e1,A6 e2];exact hc)
       have hS2:D8 st t:=hst6.trans h76
       have hnets:∀ k,k<l.length→fn k=eI (gI X.nets k):=fun k hk=>by
        rw [hXd,hfn k hk]
        show eI _=eI (gI (U4 l.length p.us) k)
        unfold U4
        rw [L5 _ hk]
       conv=>whnf
       rcases hR.deals with ⟨hd0,rfl⟩ | ⟨bd,gd,rfl,hbd,hbt,hgd⟩
       ·refine F2 htp hfp ?_
        refine N1 h6b rfl ?_
        refine F2 (A0 ..) (A5 ..) ?_
        exact .inr ⟨hk0,bn,fn,.emp,by rw [hXd];rfl,hstn,by rw [A6 hb6n.symm];exact htn,hnets,hS2.over hb6,.inl ⟨by rw [hXd];exact hd0,rfl⟩⟩
       ·have hbdp:bd≠bp:=fun e=>by subst e;rw [A0] at hbd;cases hbd
        rw [A6 hbdp] at hbd
        have hbdn:bd≠bn:=fun e=>by subst e;rw [A0] at hbd;cases hbd
        rw [A6 hbdn] at hbd
        have hbd6:bd≠b6:=fun e=>by subst e;rw [h6] at hbd;cases hbd
        refine F2 htp hfp ?_
        refine N1 h6b rfl ?_
        refine F2 (A0 ..) (A5 ..) ?_
        exact .inr ⟨hk0,bn,fn,.own 2 bd 0 a.1.deals.length,by rw [hXd];rfl,hstn,by rw [A6 hb6n.symm];exact htn,hnets,hS2.over hb6,.inr ⟨bd,gd,by rw [hXd],hst6.none hbd,hbdn,by rw [A6 hbd6,hXd];exact hbt,by rw [hXd];exact hgd⟩⟩
      case true =>
       have hi':=E4 hd
       have hx:=hom _ (B3 hi')
       have hx0:0≤gI o (i:Int).toNat:=hx.1
       have hx1:(gI o (i:Int).toNat).toNat<r.promos.length:=hx.2
       have hpm:(r.promos.getD (gI o (i:Int).toNat).toNat default)∈r.promos:=B3 hx.2
       have hpc1:H7 (r.promos.getD (gI o (i:Int).toNat).toNat default)=true:=hck.promo _ hpm
       have hnext:W9 (fun a=>a.1) (T4 (N5 p)) Y5 r.promos (p,A0C r.ship (U0 l).length (N5 p)) (o.take (i+1))=if Y5 (r.promos.getD (gI o (i:Int).toNat).toNat default)=true then goB (fun a=>a.1) (T4 (N5 p)) a (r.promos.getD (gI o (i:Int).toNat).toNat default) else a:=by
        rw [htk hi',A9R,←ha];rfl
       have hend:∀ {q:PSt×Int} {dv' gv':AV} {G':List D6} {fp':Nat→AV} {t':St},q=W9 (fun a=>a.1) (T4 (N5 p)) Y5 r.promos (p,A0C r.ship (U0 l).length (N5 p)) (o.take (i+1))→RD q.1.deals G' dv' gv' (upd (upd s6 bn ⟨2,1,l.length,fn⟩) bp ⟨44,4,1,fp'⟩) t'→fp' 0=.agg [.own 1 bn 0 l.length,eI (N5 p),eI q.2,dv'] →
         named G'=q.1.groups→G'.length≤60+(i+1)→q.1.deals.length≤60+(i+1)→0≤q.2∧q.2≤10000000000000→∃ (a:PSt×Int) (dv gv:AV) (G:List D6) (fp:Nat→AV),a=W9 (fun a=>a.1) (T4 (N5 p)) Y5 r.promos (p,A0C r.ship (U0 l).length (N5 p)) (o.take (i+1)) ∧
         [.fptr (G2 r) 0,.optr 4 b6 0 0,A8 o,.optr 4 bp 0 0,gv',eI (IntKind.i64.wrap ((i:Int)+1))]=[.fptr (G2 r) 0,.optr 4 b6 0 0,A8 o,.optr 4 bp 0 0,gv,eI ((i+1:Nat):Int)] ∧
         RD a.1.deals G dv gv (upd (upd s6 bn ⟨2,1,l.length,fn⟩) bp ⟨44,4,1,fp⟩) t'∧fp 0=.agg [.own 1 bn 0 l.length,eI (N5 p),eI a.2,dv] ∧
         named G=a.1.groups∧G.length≤60+(i+1)∧a.1.deals.length≤60+(i+1)∧0≤a.2∧a.2≤10000000000000:=fun {q dv' gv' G' fp' t'} h1 h2 h3 h4 h5 h6 h7=>⟨q,dv',gv',G',fp',h1,by rw [B8 (by omega)],h2,h3,h4,h5,h6,h7⟩
       conv=>whnf
       refine ⟨[8,9],[1,5,7],List.range 10,by kernel_rfl,?_⟩;conv=>whnf
       refine ⟨_,fun s _=>⟨rfl,rfl⟩,?_⟩;conv=>whnf
       refine E1 ?_
       refine ⟨_,fun s _=>⟨rfl,rfl⟩,?_⟩;conv=>whnf
       refine ⟨rfl,⟨by show 0≤gI o (i:Int).toNat;omega,by show gI o (i:Int).toNat<(r.promos.length:Int);omega⟩,?_⟩;conv=>whnf
       refine ⟨_,fun s _=>⟨rfl,rfl⟩,?_⟩;conv=>whnf
       rw [show ((r.promos.getD (gI o (i:Int).toNat).toNat default).kind != 7)=!((r.promos.getD (gI o (i:Int).toNat).toNat default).kind==7) from rfl]
       cases h7:((r.promos.getD (gI o (i:Int).toNat).toNat default).kind==7)
       case false =>
        rw [if_neg (by unfold Y5;rw [h7];simp)] at hnext;conv=>whnf
        refine G7 ?_
        exact nx hi' (hend hnext.symm hR hfp hG (by omega) (by omega) ⟨ha0,ha1⟩)
       case true =>
        have hns:Y5 (r.promos.getD (gI o (i:Int).toNat).toNat default)=true:=by unfold Y5;rw [h7]
        rw [if_pos hns,C4W hG] at hnext;conv=>whnf
        refine C5 (B5g G (r.promos.getD (gI o (i:Int).toNat).toNat default).group (by omega) gv _ hR.groups) ?_
        cases htk2:(!L7 (r.promos.getD (gI o (i:Int).toNat).toNat default).group&&G.any fun y=>y.toList==(r.promos.getD (gI o (i:Int).toNat).toNat default).group.toList)
        case true =>
         rw [if_pos htk2] at hnext;conv=>whnf
         refine G7 ?_
         exact nx hi' (hend hnext.symm hR hfp hG (by omega) (by omega) ⟨ha0,ha1⟩)
        case false =>
         rw [if_neg (by rw [htk2];simp)] at hnext
         have hgl:=B8O G
         rw [hG] at hgl
         have hinv:=B1X (net:=N5 p) (n:=0) hpc1 hns (a:=a) ⟨by omega,by omega,ha0,ha1⟩
         have hS0:T4 (N5 p) a (r.promos.getD (gI o (i:Int).toNat).toNat default)=((A6s a.1 (r.promos.getD (gI o (i:Int).toNat).toNat default) (N5 p) a.2).2,(A6s a.1 (r.promos.getD (gI o (i:Int).toNat).toNat default) (N5 p) a.2).1):=rfl
         have hSB:A6s a.1 (r.promos.getD (gI o (i:Int).toNat).toNat default) (N5 p) a.2=if N5 p<(r.promos.getD (gI o (i:Int).toNat).toNat default).least then (a.2,a.1) else (a.2 - J2 a.2 (r.promos.getD (gI o (i:Int).toNat).toNat default).rate,if J2 a.2 (r.promos.getD (gI o (i:Int).toNat).toNat default).rate>0 then A1g a.1 (r.promos.getD (gI o (i:Int).toNat).toNat default) (J2 a.2 (r.promos.getD (gI o (i:Int).toNat).toNat default).rate) else a.1):=rfl
         rw [hS0] at hnext hinv;conv=>whnf
         refine F2 htp hfp ?_
         cases hgt:decide ((r.promos.getD (gI o (i:Int).toNat).toNat default).least>N5 p)
         case true =>
          have hgt':=of_decide_eq_true hgt
          rw [hSB,if_pos hgt'] at hnext;conv=>whnf
          refine G7 ?_
          exact nx hi' (hend (q:=a) hnext.symm hR hfp hG (by omega) (by omega) ⟨ha0,ha1⟩)
         case false =>
          have hgt':=of_decide_eq_false hgt
          rw [if_neg (by omega)] at hSB
          have hb:=S4 a.2 (r.promos.getD (gI o (i:Int).toNat).toNat default).rate
          have hr0:=(A2X hpc1).ship (by simpa using h7)
          have hle:=A4q ha0 (show 0≤(r.promos.getD (gI o (i:Int).toNat).toNat default).rate by omega) hr0.2
          have hw:IntKind.i64.wrap (a.2 - J2 a.2 (r.promos.getD (gI o (i:Int).toNat).toNat default).rate)=a.2 - J2 a.2 (r.promos.getD (gI o (i:Int).toNat).toNat default).rate:=A9 (by omega) (by omega)
          conv=>whnf
          refine F2 htp hfp ?_
          refine I2 (A7G a.2 (r.promos.getD (gI o (i:Int).toNat).toNat default).rate _) ?_
          cases hgh:decide (J2 a.2 (r.promos.getD (gI o (i:Int).toNat).toNat default).rate>0)
          case false =>
           have hgh':=of_decide_eq_false hgh
           rw [if_neg hgh'] at hSB
           rw [hSB,show a.2 - J2 a.2 (r.promos.getD (gI o (i:Int).toNat).toNat default).rate=a.2 by omega] at hnext;conv=>whnf
           refine G7 ?_
           exact nx hi' (hend (q:=a) hnext.symm hR hfp hG (by omega) (by omega) ⟨ha0,ha1⟩)
          case true =>
           have hgh':=of_decide_eq_true hgh
           rw [if_pos hgh'] at hSB
           rw [hSB] at hnext hinv;conv=>whnf
           refine ⟨[1,6,7,8,10],[],[],.qui 0 (.qui 2 (.qui 4 (.qui 5 (.two 1 6 (.qui 3 (.qui 9 (.gen 6 (.gen 7 (.gen 8 (.gen 10 (.qui 11 .done))))))) (.two 1 7 (.qui 3 (.qui 9 (.gen 7 (.gen 8 (.gen 10 (.qui 11 .done)))))) (.two 1 8 (.qui 3 (.qui 9 (.gen 8 (.gen 10 (.qui 11 .done))))) (.gen 1 (.qui 3 (.qui 9 (.gen 10 (.qui 11 .done))))))))))),by kernel_rfl,?_⟩;conv=>whnf
           repeat' (refine And.intro ?_ ?_<;>(conv=>whnf))
           all_goals first
            | (refine ldV htp rfl (by omega) hfp ?_
               conv=>whnf
               refine RD.appG (y:=(r.promos.getD (gI o (i:Int).toNat).toNat default).group) hR rfl rfl (by omega) (fun gv' t1 hR1=>?_))
            | (refine RD.appG (y:=(r.promos.getD (gI o (i:Int).toNat).toNat default).group) hR rfl rfl (by omega) (fun gv' t1 hR1=>?_)
               conv=>whnf
               refine ldV (hat hR1).2 rfl (by omega) hfp ?_)
           all_goals
            conv=>whnf
            refine stU (hat hR1).2 hfp ?_
            have hR2:=hwp (Z':=⟨44,4,1,C9 fp 0 (.agg [.own 1 bn 0 l.length,eI (N5 p),eI (IntKind.i64.wrap (a.2 - J2 a.2 (r.promos.getD (gI o (i:Int).toNat).toNat default).rate)),dv])⟩) hR1
            rcases ROut.head hR2 with rfl | ⟨bo,rfl⟩
            all_goals
             conv=>whnf
             refine F2 (hat hR2).2 (A5 ..) ?_
             refine RD.appD (y:=⟨(r.promos.getD (gI o (i:Int).toNat).toNat default).id,J2 a.2 (r.promos.getD (gI o (i:Int).toNat).toNat default).rate⟩) hR2 rfl (by rfl) (by omega) (fun bd t2 hR3=>?_);conv=>whnf
             refine N1 (hat hR3).2 (A5 ..) ?_
             refine G7 ?_
             refine nx hi' ?_
             exact hend (q:=(A1g a.1 (r.promos.getD (gI o (i:Int).toNat).toNat default) (J2 a.2 (r.promos.getD (gI o (i:Int).toNat).toNat default).rate),a.2 - J2 a.2 (r.promos.getD (gI o (i:Int).toNat).toNat default).rate)) (G':=G++[(r.promos.getD (gI o (i:Int).toNat).toNat default).group]) hnext.symm (hwp hR3) (by rw [A5,hw];rfl) (by rw [B0m,hG];rfl) (by rw [List.length_append];show G.length+1≤_;omega) (by show (a.1.deals++[_]).length≤_;rw [List.length_append];show a.1.deals.length+1≤_;omega) ⟨by show 0≤a.2 - J2 a.2 (r.promos.getD (gI o (i:Int).toNat).toNat default).rate;omega,by show a.2 - J2 a.2 (r.promos.getD (gI o (i:Int).toNat).toNat default).rate≤_;omega⟩
def IsF (n:Nat) (F:Nat→Bool) (y:R9):Prop:=∃ f,y=⟨4,1,n,f⟩∧∀ k,k<n→f k=eB (F k)
theorem IsF.set {n i:Nat} {F F':Nat→Bool} {f:Nat→AV} (h:∀ k,k<n→f k=eB (F k)) (h1:F' i=true) (h2:∀ k,k≠i→F' k=F k):IsF n F' ⟨4,1,n,C9 f i (eB true)⟩:=by
 refine ⟨_,rfl,fun k hk=>?_⟩
 by_cases e:k=i
 ·subst e;rw [A5,h1]
 ·rw [H3 e,h k hk,h2 k e]
def OD (bo bd:Nat) (L:List Int) (n:Nat) (F:Nat→Bool):St→St→Prop:=V9 bo (IsL L) (V9 bd (IsF n F) D8)
theorem A4U (bo bd:Nat) (L:List Int) (n:Nat) (F:Nat→Bool):J8 (OD bo bd L n F):=Z6 (Z6 B2)
section
variable {bo bd n:Nat} {L L':List Int} {F F':Nat→Bool} {s t:St} {y:R9}
theorem OD.setL (h:OD bo bd L n F s t) (hy:IsL L' y):OD bo bd L' n F s (upd t bo y):=V9.set (Z6 B2) h hy
theorem OD.setD (h:OD bo bd L n F s t) (hy:IsF n F' y):OD bo bd L n F' s (upd t bd y):=V9.map h fun s h=>V9.set B2 h hy
theorem OD.atL (h:OD bo bd L n F s t):∃ y,IsL L y∧t bo=some y:=V9.at (Z6 B2) h
theorem OD.atD (h:OD bo bd L n F s t):∃ y,IsF n F y∧t bd=some y:=by
 obtain ⟨_,y,_,h⟩:=h
 exact V9.at B2 h
theorem OD.congr (h:OD bo bd L n F s t) (hF:∀ k,k<n→F k=F' k):OD bo bd L n F' s t :=
 V9.map h fun s h=>V9.weak h fun y ⟨f,h1,h2⟩=>⟨f,h1,fun k hk=>by rw [h2 k hk,hF k hk]⟩
end
theorem B8z {t:Tax} {rates nets:List Int} {D:Int→Bool} {L:List Int} (h:B1S t rates nets D L) (hD:∀ i,i<nets.length→D (-(gI rates i))=true):L=F7 t rates nets:=by
 have hl:(F7 t rates nets).length=nets.length:=by unfold F7;rw [List.length_map,List.length_range]
 refine C0Y (by rw [h.1,hl]) fun i h1=>?_
 have hi:i<nets.length:=by rw [←h.1];exact h1
 have h3:=h.2 i hi
 rw [if_pos (hD i hi)] at h3
 rw [h3]
 unfold F7 gI
 rw [List.getD_eq_getElem?_getD,List.getElem?_map,List.getElem?_range hi];rfl
def A7f (rates:List Int) (k:Int) (m:Nat):Nat:=((List.range m).filter fun i=>-(gI rates i)==k).length
theorem C0G (rates:List Int) (k:Int) (m:Nat):A7f rates k (m+1)=A7f rates k m+(if (-(gI rates m)==k)=true then 1 else 0):=by
 unfold A7f
 rw [List.range_succ,List.filter_append,List.length_append]
 congr 1
 by_cases h:(-(gI rates m)==k)=true
 ·rw [if_pos h,List.filter_cons_of_pos (p:=fun i=>-(gI rates i)==k) h];rfl
 ·rw [if_neg h,List.filter_cons_of_neg (p:=fun i=>-(gI rates i)==k) h];rfl
theorem C3p (rates:List Int) (k:Int):A7f rates k rates.length=(K2 rates k).length:=rfl
theorem C5A {rates:List Int} {k:Int} {m:Nat} (hm:m≤rates.length):A7f rates k m≤(K2 rates k).length:=by
 unfold A7f K2
 exact (((List.range_sublist.2 hm).filter _).length_le)
theorem C5z {rates:List Int} {k:Int} {m:Nat} (hm:m<rates.length) (h:(-(gI rates m)==k)=true):A7f rates k m<(K2 rates k).length∧gN (K2 rates k) (A7f rates k m)=m:=by
 have hk : -(gI rates m)=k:=by simpa using h
 have hg:m∈K2 rates k:=List.mem_filter.2 ⟨List.mem_range.2 hm,h⟩
 have e1:=A7s hm
 rw [(Z8 hg).2.2] at e1
 have e2:A0a rates m=A7f rates k m:=by
  unfold A0a A7f
  congr 1
  refine List.filter_congr fun j _=>?_
  rw [Bool.eq_iff_iff,beq_iff_eq,beq_iff_eq];omega
 rw [e2] at e1
 obtain ⟨e3,e4⟩:=List.getElem?_eq_some_iff.1 e1
 refine ⟨e3,?_⟩
 show (((K2 rates k).getD (A7f rates k m) 0:Nat):Int)=m
 rw [List.getD_eq_getElem?_getD,e1];rfl
set_option maxHeartbeats 8000000 in
theorem B6E (t:Tax) (rates nets:List Int) (hn:A3V nets) (hr:rates.length=nets.length) (hq:∀ x∈rates,0≤x∧x≤10000) (st:St) :
  S P 216 [M8 t,A8 rates,A8 nets] st fun v st'=>v=A8 (F7 t rates nets)∧st'=st:=by
 have hnl:=hn.len
 have hns:=hn.sum
 have hol:(F7 t rates nets).length=nets.length:=by unfold F7;rw [List.length_map,List.length_range]
 refine S.post (post:=fun v s=>∃ bo,v=.own 1 bo 0 nets.length∧st bo=none∧(∃ y,IsL (F7 t rates nets) y∧s bo=some y)∧D8 st s) ?_ (fun v s ⟨bo,h1,h2,⟨y,⟨f,hy,hf⟩,hb⟩,h4⟩=>⟨_,st,⟨rfl,rfl⟩,by
  subst hy;rw [h1]
  have e:A8 (F7 t rates nets)=.arr 1 nets.length (fun i=>eI (gI (F7 t rates nets) i)):=by unfold A8 B1;rw [hol]
  rw [e]
  exact (G5 hb rfl (by show nets.length≤(F7 t rates nets).length;omega) (fun i hi=>hf i (by omega))).trans ((D8.del h4 h2).shift _)⟩)
 refine G0 [3] Tryz.func216 ?_
 refine mkO rfl rfl rfl (by show 8 * nets.length≤_;omega) (by omega) (by rfl) (fun bo hbo=>?_);conv=>whnf
 refine mkO rfl rfl rfl (by show 1 * nets.length≤_;omega) (by omega) (by rfl) (fun bd hbd=>?_);conv=>whnf
 refine lp nets.length [1,2,3,7,8,9] (fun i vs u=>∃ (D:Int→Bool) (L:List Int),vs=[A8 rates,A8 nets,.fptr (M8 t) 0,.own 1 bo 0 nets.length,.own 1 bd 0 nets.length,eI i]∧B1S t rates nets D L∧(∀ j,j<i→D (-(gI rates j))=true)∧OD bo bd L nets.length (fun k=>D (-(gI rates k))) st u) ?_ ?_
 ·conv=>whnf
  exact ⟨fun _=>false,List.replicate nets.length 0,rfl,⟨List.length_replicate,fun i hi=>by
   rw [if_neg (by simp)];unfold gI
   rw [List.getD_eq_getElem?_getD,List.getElem?_replicate];split<;>rfl⟩,fun j hj=>absurd hj (by omega),hbo,_,⟨fun _=>H4 r2.zero,by rw [List.length_replicate];rfl,fun i hi=>by
   unfold gI;rw [List.getD_eq_getElem?_getD,List.getElem?_replicate];split<;>rfl⟩,hbd,_,⟨fun _=>H4 r4.zero,rfl,fun k hk=>rfl⟩,D8.refl _⟩
 rintro i vs u hi ⟨D,L,rfl,hdone,hall,hR⟩
 conv=>whnf
 cases h1:decide ((i:Int)<(nets.length:Int))
 case false =>
  obtain rfl:=C6 h1 hi
  have hL:=B8z hdone hall
  conv=>whnf
  obtain ⟨y,hy,hb⟩:=hR.atL
  have hsup:=(A4U ..).sup hR
  exact ⟨bo,rfl,hbo,⟨y,by rw [←hL];exact hy,hb⟩,hsup⟩
 have hi':=E4 h1
 obtain ⟨yd,⟨fd,rfl,hfd⟩,hbd2⟩:=hR.atD
 conv=>whnf
 refine E1 ?_
 refine ldV hbd2 rfl (by omega) (v:=eB (D (-(gI rates i)))) (by rw [show 0+((i:Nat):Int).toNat=i by omega];exact hfd i hi') ?_;conv=>whnf
 cases hD:D (-(gI rates i))
 case true =>
  conv=>whnf
  refine G7 ?_
  exact nx hi' ⟨D,L,by rw [B8 (by omega)],hdone,fun j hj=>by
   by_cases e:j=i
   ·rw [e];exact hD
   ·exact hall j (by omega),hR⟩
 clear hbd2 hfd
 obtain ⟨key,hkey⟩:∃ key,key = -(gI rates i):=⟨_,rfl⟩
 have hil:i<rates.length:=by omega
 have hrate:0≤gI rates i∧gI rates i≤10000:=hq (gI rates i) (B3 hil)
 have him:i∈K2 rates key:=List.mem_filter.2 ⟨List.mem_range.2 hil,by rw [hkey];exact beq_self_eq_true _⟩
 have hnext:=B1T (k:=key) hdone hr
 have hcl:=fun m (hm:m≤rates.length)=>C5A (k:=key) hm
 have hca:=fun m (hm:m<rates.length) h=>C5z (k:=key) hm h
 have hcn:=C0G rates key
 have hce:=C3p rates key
 have hc0:A7f rates key i=0:=by
  unfold A7f
  rw [List.length_eq_zero_iff,List.filter_eq_nil_iff]
  intro j hj hk
  have hj:=List.mem_range.1 hj
  have h2:=hall j hj
  rw [show -(gI rates j) = -(gI rates i) by rw [←hkey];simpa using hk,hD] at h2
  cases h2
 have hparts:(A1X t rates nets key).length=(K2 rates key).length∧(∀ st,S P 253 [eI (B6 t (A7 ((K2 rates key).map (gI nets))) (gI rates i)),A8 ((K2 rates key).map (gI nets))] st fun v st'=>v=.tuple [A8 (A1X t rates nets key),eI 0]∧st'=st):=by
  have hw:=A2h (t:=t) hn hr (i:=i) hrate
  have e:I5 rates nets i=(K2 rates key).map (gI nets):=by unfold I5;rw [(Z8 him).2.2]
  rw [e] at hw
  have h3:=(R6 hw).2.1
  have e2:A1X t rates nets key=D7 (B6 t (A7 ((K2 rates key).map (gI nets))) (gI rates i)) ((K2 rates key).map (gI nets)):=by unfold A1X;rw [hkey,show - -(gI rates i)=gI rates i by omega]
  rw [e2]
  refine ⟨by rw [h3,List.length_map],fun st=>?_⟩
  exact A6K _ _ hw st
 have hGok:=fun j=>C4V (rates:=rates) (k:=key) (j:=j)
 have hsub:((K2 rates key).map (gI nets)).Sublist nets:=by
  have h1:((K2 rates key).map (gI nets)).Sublist ((List.range nets.length).map (gI nets)):=by
   refine List.Sublist.map _ ?_
   unfold K2;rw [hr];exact List.filter_sublist
  rw [A5s] at h1;exact h1
 have hw0:∀ v∈(K2 rates key).map (gI nets),0≤v:=fun v hv=>hn.pos v (hsub.subset hv)
 have hws:A7 ((K2 rates key).map (gI nets))≤10000000000000:=by have:=B0Y hsub hn.pos;omega
 have hGl:(K2 rates key).length≤nets.length:=by have:=hsub.length_le;rwa [List.length_map] at this
 have hGp:0<(K2 rates key).length:=List.length_pos_of_mem him
 have hgm:∀ j,j<(K2 rates key).length→gI ((K2 rates key).map (gI nets)) j=gI nets (gN (K2 rates key) j).toNat:=fun j hj=>by
  show gI ((K2 rates key).map (gI nets)) j=gI nets ((((K2 rates key).getD j 0:Nat):Int)).toNat
  rw [Int.toNat_natCast]
  unfold gI
  rw [List.getD_eq_getElem?_getD,List.getElem?_map,List.getD_eq_getElem?_getD (l:=K2 rates key),List.getElem?_eq_getElem hj];rfl
 generalize K2 rates key=G at *
 generalize A1X t rates nets key=X at *
 generalize hCnt:A7f rates key=cnt at *
 conv=>whnf
 refine lp (nets.length - i) [1,2,3,7,8,9,10,11,12] (fun j vs u=>∃ (lv wv:AV),vs=[A8 rates,A8 nets,.fptr (M8 t) 0,.own 1 bo 0 nets.length,.own 1 bd 0 nets.length,eI i,lv,wv,eI ((i+j:Nat):Int)]∧ROut (fun s t=>ROut (OD bo bd L nets.length (fun m=>D (-(gI rates m))||(decide (m<i+j)&&(-(gI rates m)==key)))) 3 1 (fun x=>eI (gN G x)) (cnt (i+j)) s lv t) 2 1 (fun x=>eI (gI (G.map (gI nets)) x)) (cnt (i+j)) st wv u) ?_ ?_
 ·conv=>whnf
  refine ⟨.emp,.emp,rfl,?_⟩
  rw [Nat.add_zero,hc0]
  refine ROut.start (show ROut _ _ _ _ 0 st .emp u from ROut.start (show OD _ _ _ _ _ st u from hR.congr fun m hm=>?_) _ _ _) _ _ _
  by_cases e:m<i
  ·rw [hall m e,Bool.true_or]
  ·rw [decide_eq_false e,Bool.false_and,Bool.or_false]
 clear hR
 rintro j vs w hj ⟨lv,wv,rfl,hR⟩
 conv=>whnf
 cases h2:decide ((((i+j:Nat)):Int)<(nets.length:Int))
 case true =>
  have hj':i+j<nets.length:=by have:=of_decide_eq_true h2;omega
  have hcj:=hcn (i+j)
  conv=>whnf
  refine ⟨[],[],List.range 9,by kernel_rfl,?_⟩;conv=>whnf
  refine E1 ?_
  refine E1 ?_
  have hk3:(rates.getD (((i+j:Nat):Int)).toNat default==rates.getD ((i:Nat):Int).toNat default)=(-(gI rates (i+j))==key):=by
   rw [Int.toNat_natCast,Int.toNat_natCast,hkey,Bool.eq_iff_iff,beq_iff_eq,beq_iff_eq]
   show gI rates (i+j)=gI rates i↔-(gI rates (i+j)) = -(gI rates i)
   omega
  rw [hk3]
  cases h3:(-(gI rates (i+j))==key)
  case false =>
   rw [h3,if_neg (by simp)] at hcj;conv=>whnf
   refine G7 ?_
   refine nx (n:=nets.length - i) (by omega) ⟨lv,wv,by rw [B8 (by omega)];rfl,?_⟩
   rw [show i+(j+1)=i+j+1 from rfl,hcj]
   refine ROut.map hR fun s h=>ROut.map h fun s h=>OD.congr h fun m hm=>?_
   by_cases e:m=i+j
   ·subst e;rw [h3,Bool.and_false,Bool.and_false]
   ·rw [show decide (m<i+j+1)=decide (m<i+j) from decide_eq_decide.2 (by omega)]
  rw [h3,if_pos rfl] at hcj
  obtain ⟨hc1,hc2⟩:=hca (i+j) (by omega) h3
  obtain ⟨s0,hw0,s1,hl0,hOD⟩:=hR
  obtain ⟨yd,⟨fd,rfl,hfd⟩,hbd2⟩:=hOD.atD
  conv=>whnf
  refine E1 ?_
  refine stU hbd2 (hfd (0+((i+j:Nat):Int).toNat) (by omega)) ?_
  have hOD2:OD bo bd L nets.length (fun m=>D (-(gI rates m))||(decide (m<i+j+1)&&(-(gI rates m)==key))) s1 _:=hOD.setD (IsF.set (i:=0+((i+j:Nat):Int).toNat) hfd (by rw [show 0+((i+j:Nat):Int).toNat=i+j by omega,h3,decide_eq_true (by omega),Bool.and_true,Bool.or_true]) (fun k hk=>by
   rw [show decide (k<i+j+1)=decide (k<i+j) from decide_eq_decide.2 (by omega)]))
  have hB1:=A4U bo bd L nets.length (fun m=>D (-(gI rates m))||(decide (m<i+j+1)&&(-(gI rates m)==key)))
  have hin:ROut (OD bo bd L nets.length (fun m=>D (-(gI rates m))||(decide (m<i+j+1)&&(-(gI rates m)==key)))) 3 1 (fun x=>eI (gN G x)) (cnt (i+j)) s0 lv _:=⟨s1,hl0,hOD2⟩
  have hout:ROut (fun s t=>ROut (OD bo bd L nets.length (fun m=>D (-(gI rates m))||(decide (m<i+j+1)&&(-(gI rates m)==key)))) 3 1 (fun x=>eI (gN G x)) (cnt (i+j)) s lv t) 2 1 (fun x=>eI (gI (G.map (gI nets)) x)) (cnt (i+j)) st wv _:=⟨s0,hw0,hin⟩
  have hwv:=ROut.head hout
  have hlv:=ROut.head hin
  have hgc:=hgm _ hc1
  rw [hc2] at hgc
  have hcl2:=hcl (i+j) (by omega)
  rcases hlv with rfl | ⟨bl,rfl⟩<;>rcases hwv with rfl | ⟨bw,rfl⟩
  all_goals
   conv=>whnf
   refine ⟨[2,3,8,9,10],[],[],.qui 0 (.qui 1 (.qui 4 (.qui 5 (.qui 6 (.qui 7 (.two 2 8 (.two 3 8 (.gen 8 (.gen 9 (.gen 10 (.qui 11 (.qui 12 .done))))) (.two 3 9 (.gen 9 (.gen 10 (.qui 11 (.qui 12 .done)))) (.gen 3 (.gen 10 (.qui 11 (.qui 12 .done)))))) (.two 2 9 (.two 3 9 (.gen 9 (.gen 10 (.qui 11 (.qui 12 .done)))) (.gen 3 (.gen 10 (.qui 11 (.qui 12 .done))))) (.gen 2 (.gen 3 (.gen 10 (.qui 11 (.qui 12 .done)))))))))))),by kernel_rfl,?_⟩;conv=>whnf
   refine E1 ?_
   repeat' (refine And.intro ?_ ?_<;>(conv=>whnf))
   all_goals
    refine ROut.app (q:=r3) hB1 rfl rfl rfl rfl rfl (f:=fun x=>eI (gN G x)) (by show _=eI _;rw [hc2];rfl) (by show (cnt (i+j)+1) * 8≤140737488355328;omega) hin (fun lv' w2 hin2=>?_)
    have hout2:ROut (fun s t=>ROut (OD bo bd L nets.length (fun m=>D (-(gI rates m))||(decide (m<i+j+1)&&(-(gI rates m)==key)))) 3 1 (fun x=>eI (gN G x)) (cnt (i+j)+1) s lv' t) 2 1 (fun x=>eI (gI (G.map (gI nets)) x)) (cnt (i+j)) st _ w2:=⟨s0,hw0,hin2⟩
    conv=>whnf
    refine ROut.app (q:=r2) (D9 hB1 _ _ _ _ _) rfl rfl rfl rfl rfl (f:=fun x=>eI (gI (G.map (gI nets)) x)) (by show _=eI _;rw [hgc];rfl) (by show (cnt (i+j)+1) * 8≤140737488355328;omega) hout2 (fun wv' w3 hout3=>?_);conv=>whnf
    refine G7 ?_
    refine nx (n:=nets.length - i) (by omega) ⟨lv',wv',by rw [B8 (by omega)];rfl,?_⟩
    rw [show i+(j+1)=i+j+1 from rfl,hcj]
    exact hout3
 have hije:i+j=rates.length:=by have:=of_decide_eq_false h2;omega
 rw [hije,hce] at hR
 obtain ⟨w2,hsh,hR2⟩:=ROut.shift (D9 (A4U ..) _ _ _ _ _) hR
 have e0:AV.arr 1 G.length (fun x=>eI (gI (G.map (gI nets)) x))=A8 (G.map (gI nets)):=by unfold A8 B1;rw [List.length_map]
 rw [e0] at hsh
 have hsm:S P 119 [wv] w fun v s=>v=eI (A7 (G.map (gI nets)))∧s=w :=
  S.lends (A8A (G.map (gI nets)) (by rw [List.length_map];omega) hw0 (by omega) st0) (hsh.trans ((C4A _).shift _)) fun v hv=>⟨_,rfl,by rw [hv];exact So.int _ _⟩
 have hpt:=fun s=>B3s t (A7 (G.map (gI nets))) (gI rates i) hrate s
 generalize A7 (G.map (gI nets))=W at hsm hpt hparts
 generalize B6 t W (gI rates i)=M at hpt hparts
 obtain ⟨bw,rfl⟩:∃ b,wv=.own 1 b 0 G.length:=by
  rcases ROut.head hR with rfl | h
  ·obtain ⟨s0,⟨h0,_⟩ | ⟨_,b,_,_,h1,_⟩,_⟩:=hR
   ·omega
   ·cases h1
  ·exact h
 conv=>whnf
 refine ⟨[9],[],List.range 15,by kernel_rfl,?_⟩;conv=>whnf
 refine X9 hsm ?_
 refine E1 ?_
 refine X9 (hpt _) ?_
 refine F4 (args':=[eI M,A8 (G.map (gI nets))]) (B0.cons (B0.keep _ _) hsh) (C5 (hparts.2 _) ?_);conv=>whnf
 obtain ⟨bl,rfl⟩:∃ b,lv=.own 1 b 0 G.length:=by
  rcases ROut.head hR2 with rfl | h
  ·obtain ⟨s0,⟨h0,_⟩ | ⟨_,b,_,_,h1,_⟩,_⟩:=hR2
   ·omega
   ·cases h1
  ·exact h
 refine lp G.length [1,2,3,7,8,9,10,13,15] (fun j vs u=>vs=[A8 rates,A8 nets,.fptr (M8 t) 0,.own 1 bo 0 nets.length,.own 1 bd 0 nets.length,eI i,.own 1 bl 0 G.length,A8 X,eI j]∧ROut (OD bo bd (A3G L G X j) nets.length (fun m=>D (-(gI rates m))||(decide (m<rates.length)&&(-(gI rates m)==key)))) 3 1 (fun x=>eI (gN G x)) G.length st (.own 1 bl 0 G.length) u) ?_ ?_
 ·conv=>whnf
  exact ⟨rfl,hR2⟩
 clear hR hR2 hsm hsh
 rintro j vs v hjx ⟨rfl,hR3⟩
 have hPl:=A7B L G X j
 have hdl:=hdone.1
 have hXl:=hparts.1
 conv=>whnf
 cases h5:decide ((j:Int)<(G.length:Int))
 case true =>
  have hj5:=E4 h5
  have hGj:=hGok j (by omega)
  obtain ⟨s0,hcl,hOD⟩:=hR3
  obtain ⟨g,hb3,h4⟩:∃ g,v bl=some ⟨3,1,G.length,g⟩∧∀ k,k<G.length→g k=eI (gN G k):=by
   rcases hcl with ⟨h0,_⟩ | ⟨_,b,g,h3,h4,h5,h6⟩
   ·omega
   ·injection h4 with _ h4 _ _
    subst h4
    exact ⟨g,(A4U ..).sup hOD bl _ (by rw [h5];exact A0 ..),h6⟩
  obtain ⟨yo,⟨fo,rfl,hfo⟩,hbo3⟩:=hOD.atL
  conv=>whnf
  refine ⟨[10],[],List.range 11,by kernel_rfl,?_⟩;conv=>whnf
  refine E1 ?_
  refine ldV hb3 rfl (by show 0+((j:Nat):Int).toNat<G.length;omega) (v:=eI (gN G j)) (by show g (0+((j:Nat):Int).toNat)=_;rw [show 0+((j:Nat):Int).toNat=j by omega];exact h4 j (by omega)) ?_;conv=>whnf
  refine E1 ?_
  refine E1 ?_
  refine stV hbo3 rfl (by show 0+(gN G j).toNat<(A3G L G X j).length;omega) (hfo (0+(gN G j).toNat) (by omega)) (by rfl) ?_;conv=>whnf
  refine G7 ?_
  have hset:IsL (A3G L G X (j+1)) ⟨2,1,(A3G L G X j).length,C9 fo (0+(gN G j).toNat) (eI (gI X (j:Int).toNat))⟩:=by
   have:=IsL.set (i:=(gN G j).toNat) (v:=gI X j) hfo
   rw [show 0+(gN G j).toNat=(gN G j).toNat by omega,show (j:Int).toNat=j by omega]
   exact this
  exact nx hj5 ⟨by rw [B8 (by omega)],⟨_,hcl,hOD.setL hset⟩⟩
 obtain rfl:=C6 h5 hjx
 have hfin:=ROut.dropped (A4U ..) hR3
 conv=>whnf
 refine G7 ?_
 refine nx hi' ⟨fun y=>D y||y==key,A3G L G X G.length,by rw [B8 (by omega)],hnext,fun j hj=>?_,hfin.congr fun m hm=>?_⟩
 ·show (D (-(gI rates j))||(-(gI rates j)==key))=true
  by_cases e:j=i
  ·subst e;rw [hkey,beq_self_eq_true,Bool.or_true]
  ·rw [hall j (by omega),Bool.true_or]
 ·rw [decide_eq_true (by omega),Bool.true_and]
theorem A6f {t:Tax} (h:taxC t=true):t.zones.length≤20∧∀ z∈t.zones,z.rates.length≤40:=by
 have h':=h
 unfold taxC at h
 simp only [Bool.and_eq_true,Bool.not_eq_true',Bool.or_eq_false_iff,decide_eq_false_iff_not] at h
 refine ⟨by omega,fun z hz=>?_⟩
 obtain ⟨k,hk,rfl⟩:=E3 hz
 exact (A5K (A3w.1 h.2.1 k hk)).2.2.1
def C2K (t:Tax):FuncId:=if t.byOrder=true then 211 else 210
def X6 (t:Tax) (taxes nets:List Int) (i:Nat):Int:=if t.incl=true then gI nets i - gI taxes i else gI nets i
theorem B6m (f:Nat→Int) (i:Nat):(List.range (i+1)).map f=(List.range i).map f++[f i]:=by rw [List.range_succ,List.map_append];rfl
theorem U9 (n i:Nat):(List.replicate n (0:Int)).getD i default=0:=by
 rw [List.getD_eq_getElem?_getD,List.getElem?_replicate];split<;>rfl
set_option maxHeartbeats 8000000 in
theorem C5K {t:Tax} {z:L3} {s:D6} {cats:List D6} {nets:List Int} {ship:Int} (h:A0k t z cats nets ship) (hz:X7 t.zones s=some z) (exempt:Bool)
  (hTax:∀ st,S P (C2K t) [M8 t,A8 (cats.map (E7 z)),A8 nets] st fun v st'=>v=A8 (I6 t (cats.map (E7 z)) nets)∧st'=st) (st:St) :
  S P 116 [M8 t,eS s,eB exempt,D2 cats,A8 nets,eI ship] st fun v st' =>
   v=.tuple [A8 (L4 t z exempt cats nets ship).goods,A8 (L4 t z exempt cats nets ship).taxes,eI (L4 t z exempt cats nets ship).ship,eI (L4 t z exempt cats nets ship).shipTax,eI 0]∧st'=st:=by
 obtain ⟨hr1,hr2⟩:=A3I h
 obtain ⟨t1,t2⟩:=A7Q (t:=t) h.nets hr1 hr2
 obtain ⟨l1,l2⟩:=A6f h.tax
 have hzm:z∈t.zones:=List.mem_of_find?_eq_some hz
 have hzr:=l2 z hzm
 have hn:=h.nets.len
 have hcl:=h.cats
 have hq:=(A5K h.zone).2.1
 have hm:=A2U (t:=t) h.ship.1 hq
 have hs:=h.ship
 have hM:=fun st=>B7E h st
 have hZ:∀ st,S P 208 [M8 t,eS s] st fun v st'=>v=.tuple [Q6 z,.bool true]∧st'=st:=fun st=>by
  have:=B0N t s (by omega) (fun z hz=>by have:=l2 z hz;omega) st
  rw [hz] at this;exact this
 have hR:=fun c st=>B6I z c (by omega) st
 have hU:=fun st=>B6n t ship z.ship hq st
 have hL:L4 t z exempt cats nets ship=⟨(List.range nets.length).map (X6 t (I6 t (cats.map (E7 z)) nets) nets),if exempt=true then List.replicate nets.length 0 else I6 t (cats.map (E7 z)) nets,if t.incl=true then ship - B6 t ship z.ship else ship,if exempt=true then 0 else B6 t ship z.ship⟩:=rfl
 rw [hL]
 have hnx:∀ i,i<nets.length→0≤gI nets i∧gI nets i≤10000000000000:=fun i hi=>by
  have h1:=h.nets.pos _ (show gI nets i∈nets from B3 hi)
  have h2:=I9 h.nets.pos (show gI nets i∈nets from B3 hi)
  have h3:=h.nets.sum
  exact ⟨h1,by omega⟩
 have htx:∀ i,i<nets.length→0≤gI (I6 t (cats.map (E7 z)) nets) i∧gI (I6 t (cats.map (E7 z)) nets) i≤10000000000000:=fun i hi=>t2 _ (B3 (by omega))
 generalize I6 t (cats.map (E7 z)) nets=TX at hTax t1 htx ⊢
 generalize B6 t ship z.ship=MS at hU hm ⊢
 clear hL t2
 refine S.post (post:=fun v s'=>∃ gv tv c1 c2,v=.tuple [gv,tv,eI (if t.incl=true then ship - MS else ship),eI (if exempt=true then 0 else MS),eI 0] ∧
   B0 [gv] s' [A8 ((List.range nets.length).map (X6 t TX nets))] c1∧B0 [tv] c1 [A8 (if exempt=true then List.replicate nets.length 0 else TX)] c2∧D8 st c2) ?_
  (fun v s' ⟨gv,tv,c1,c2,h1,h2,h3,h4⟩=>⟨_,st,⟨rfl,rfl⟩,by
   rw [h1]
   exact (B0.tuple (B0.cons h2 (B0.cons h3 (B0.keep _ _))) rfl).trans (h4.shift _)⟩)
 refine G0 [6] Tryz.func116 ?_
 refine I2 (hM _) ?_
 refine I2 (hZ _) ?_
 intro b17 hb17;conv=>whnf
 refine stU (A0 ..) rfl ?_
 rw [B7];conv=>whnf
 generalize hst:(upd st b17 _:St)=S0
 obtain ⟨f17,at17,hf17⟩:∃ f17:Nat→AV,S0 b17=some ⟨177,4,1,f17⟩∧f17 0=Q6 z:=by rw [←hst];exact ⟨_,A0 ..,by rw [A5];rfl⟩
 have hs0:D8 st S0:=by rw [←hst];exact (D8.refl st).upd hb17
 clear hst
 refine lp cats.length [2,4,5,6,12,17,19,39,40,41] (fun i vs u=>∃ sv,vs=[eB exempt,A8 nets,eI ship,.fptr (M8 t) 0,.emp,.optr 4 b17 0 0,sv,D2 cats,eI cats.length,eI i]∧F3 2 1 eI ((cats.take i).map (E7 z)) S0 sv u) ?_ ?_
 ·conv=>whnf
  exact ⟨.emp,rfl,F3.start _ _ _ _⟩
 rintro i vs u hi ⟨sv,rfl,hc⟩
 have hcs:=hc.sup
 conv=>whnf
 cases h1:decide ((i:Int)<(cats.length:Int))
 case true =>
  have hi':=E4 h1
  have hln:((cats.take i).map (E7 z)).length=i:=by rw [List.length_map,List.length_take];omega
  have hRi:=fun st=>hR (cats.getD (i:Int).toNat default) st
  have htk:(cats.take (i+1)).map (E7 z)=(cats.take i).map (E7 z)++[E7 z (cats.getD (i:Int).toNat default)]:=by rw [J0 hi',List.map_append];rfl
  generalize E7 z (cats.getD (i:Int).toNat default)=RT at hRi htk
  conv=>whnf
  refine E1 ?_
  refine F2 (hcs b17 _ at17) hf17 ?_
  refine I2 (hRi _) ?_
  refine F3.app (y:=RT) (q:=r2) rfl rfl rfl rfl rfl (by rfl) (by rw [hln];show (i+1) * 8≤140737488355328;omega) hc (fun sv' t' hc'=>?_);conv=>whnf
  refine G7 ?_
  exact nx hi' ⟨sv',by rw [B8 (by omega)],by rw [htk];exact hc'⟩
 obtain rfl:=C6 h1 hi
 rw [List.take_length] at hc
 have hTS:B0 [AV.agg [eB t.incl,eB t.byOrder,eI t.round,B1 4 Q6 t.zones],sv,A8 nets] u [M8 t,A8 (cats.map (E7 z)),A8 nets] S0:=B0.cons (B0.keep [M8 t] _) (B0.cons hc.shift (B0.keep _ _))
 clear hc hcs hM hZ hR
 generalize cats.map (E7 z)=RS at hTax hTS
 unfold C2K at hTax;conv=>whnf
 cases hbo:t.byOrder
 case' false=>rw [if_neg (by rw [hbo];simp)] at hTax
 case' true=>rw [if_pos hbo] at hTax
 all_goals
  conv=>whnf
  refine F4 hTS (C5 (hTax _) ?_);conv=>whnf
  refine F2 at17 hf17 ?_
  refine I2 (hU _) ?_
  refine lp nets.length [2,4,6,12,13,14,15,65,66,67] (fun i vs u=>∃ sv,vs=[eB exempt,A8 nets,.fptr (M8 t) 0,sv,A8 TX,eI ship,eI MS,A8 nets,eI nets.length,eI i]∧F3 2 1 eI ((List.range i).map (X6 t TX nets)) S0 sv u) ?_ ?_
  ·conv=>whnf
   exact ⟨.emp,rfl,F3.start _ _ _ _⟩
  rintro i vs u hi ⟨sv,rfl,hc⟩
  have hcs:=hc.sup
  conv=>whnf
  cases h1:decide ((i:Int)<(nets.length:Int))
  case true =>
   have hi':=E4 h1
   have hln:((List.range i).map (X6 t TX nets)).length=i:=by rw [List.length_map,List.length_range]
   have hnx1:=hnx i hi'
   have htx1:=htx i hi'
   have htk:=B6m (X6 t TX nets) i
   have hgA:X6 t TX nets i=if t.incl=true then gI nets (i:Int).toNat - gI TX (i:Int).toNat else gI nets (i:Int).toNat:=rfl
   have hgw:IntKind.i64.wrap (gI nets (i:Int).toNat - gI TX (i:Int).toNat)=gI nets (i:Int).toNat - gI TX (i:Int).toNat:=A9 (show _≤gI nets i - gI TX i by omega) (show gI nets i - gI TX i≤_ by omega)
   generalize X6 t TX nets i=GA at htk hgA
   conv=>whnf
   refine E1 ?_
   cases hin:t.incl
   case' false=>rw [if_neg (by rw [hin];simp)] at hgA
   case' true =>
    rw [if_pos hin] at hgA;conv=>whnf
    refine E1 ?_
    rw [hgw]
   all_goals
    conv=>whnf
    refine F3.app (y:=GA) (q:=r2) rfl rfl rfl rfl rfl (by rw [hgA];rfl) (by rw [hln];show (i+1) * 8≤140737488355328;omega) hc (fun sv' t' hc'=>?_);conv=>whnf
    refine G7 ?_
    exact nx hi' ⟨sv',by rw [B8 (by omega)],by rw [htk];exact hc'⟩
  obtain rfl:=C6 h1 hi
  have hwS:IntKind.i64.wrap (ship - MS)=ship - MS:=A9 (by omega) (by omega)
  conv=>whnf
  cases hin:t.incl
  case' false=>rw [if_neg (show ¬(false=true) by simp)]
  case' true =>
   rw [if_pos rfl];conv=>whnf
   rw [hwS]
  all_goals
   conv=>whnf
   cases exempt
   ·conv=>whnf
    exact ⟨sv,A8 TX,S0,S0,rfl,hc.shift,B0.keep _ _,hs0⟩
   ·conv=>whnf
    refine mkO rfl rfl rfl (by show 8 * nets.length≤_;omega) (by omega) (by rfl) (fun bz hbz=>?_);conv=>whnf
    have hb0:S0 bz=none:=N3.off hc hbz
    have hc2:=N3.under (y:=⟨2,1,nets.length,fun _=>H4 r2.zero⟩) hc hbz
    refine ⟨sv,.own 1 bz 0 nets.length,upd S0 bz ⟨2,1,nets.length,fun _=>H4 r2.zero⟩,del (upd S0 bz ⟨2,1,nets.length,fun _=>H4 r2.zero⟩) bz,rfl,N3.shift hc2,?_,D8.del (hs0.upd hb0) (hs0.none hb0)⟩
    have e:A8 (List.replicate nets.length 0)=.arr 1 nets.length (fun k=>eI ((List.replicate nets.length (0:Int)).getD k default)):=by unfold A8 B1;rw [List.length_replicate]
    rw [if_pos rfl,e]
    exact G5 (A0 ..) rfl (Nat.le_refl _) (fun k hk=>by rw [U9];rfl)
theorem ROut.cell {R:St→St→Prop} (hR:J8 R) {ty e n b:Nat} {fo:Nat→AV} {s t:St} (h:ROut R ty e fo n s (.own e b 0 n) t) (hn:0<n) :
  ∃ g,t b=some ⟨ty,e,n,g⟩∧(∀ k,k<n→g k=fo k)∧∀ (g' fo':Nat→AV),(∀ k,k<n→g' k=fo' k)→ROut R ty e fo' n s (.own e b 0 n) (upd t b ⟨ty,e,n,g'⟩):=by
 obtain ⟨s0,hc,hr⟩:=h
 rcases hc with ⟨h0,_⟩ | ⟨_,b',g,h1,h2,rfl,h3⟩
 ·omega
 ·injection h2 with _ h2 _ _
  subst h2
  refine ⟨g,hR.sup hr b _ (A0 ..),h3,fun g' fo' hg=>⟨upd s b ⟨ty,e,n,g'⟩,.inr ⟨hn,b,g',h1,rfl,rfl,hg⟩,?_⟩⟩
  have:=hR.write (y':=⟨ty,e,n,g'⟩) hr (A0 ..)
  rwa [B7] at this
theorem ROut.one {R:St→St→Prop} {ty e n:Nat} {fo:Nat→AV} {s t:St} {sv:AV} (h:ROut R ty e fo n s sv t):sv.one=true:=by rcases h.head with rfl | ⟨b,rfl⟩<;>rfl
section
variable {R0:St→St→Prop} {ty e:Nat} {F:Nat→Nat→AV} {len:Nat→Nat}
end
end Go.Proofs.YtbajhapmlfbelaaGreat
